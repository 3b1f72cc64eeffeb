/-
  Texts of this claim, pack 8: Cresw, Cgreat, Claw20a, Cresq.
-/
import Derived.Test.YtgipkpghabelkaaK4
import Derived.Test.YtgipkpghabelkaaK5
import Derived.Test.YtgipkpghabelkaaK7
/-
  Packets that are cut anew: the walk of the cut.
-/
namespace Go.Proofs.Ytgipkpghabelkaa
set_option linter.unusedVariables false
set_option linter.unusedSimpArgs false
open Go Go.Am

abbrev TB := Tok × List UInt8
abbrev slB (x : TB) : AVal := sl x.1 x.2
theorem RepL.tbs (κ : Ghost) : ∀ {l : List TB} {vs : List Value}, RepL κ ((l.map slB).flatMap AVal.cells) vs → RepL κ (((l.map (·.2)).map (sl .none)).flatMap AVal.cells) vs
  | [], _, h => h
  | a :: l, _, h => by
    have h : RepL κ (slB a :: (l.map slB).flatMap AVal.cells) _ := h
    cases h with
    | cons h1 h2 => exact .cons (VLe.slice _ _ _ κ _ h1) (RepL.tbs κ h2)
theorem VLe.tbs (l : List TB) (t : Tok) : VLe (.slice 1 (l.map slB) t) (lists .none (l.map (·.2))) := fun κ v h => by
  rcases h.slice_inv with ⟨⟨a, rfl⟩, hn⟩ | ⟨b, off, cap, vs, rfl, g2, g3, g4, g5, g6⟩
  · have hn : l = [] := by simpa using hn
    subst hn; exact .nil
  · refine .slice (vs := vs) (by rw [List.length_map, List.length_map, List.length_map]) g2 (fun x hx => ?_) (RepL.tbs κ g4) g5 trivial
    obtain ⟨y, _, rfl⟩ := List.mem_map.1 hx
    rfl
theorem VLe.aggA {xs ys : List AVal} (h : ∀ κ vs, RepL κ xs vs → RepL κ ys vs) : VLe (.agg xs) (.agg ys) := fun κ v k => by
  cases k with
  | agg r => exact .agg (h _ _ r)
/-- A packet that is given back, whatever may be appended to its fields. -/
theorem aret_pkt {a b c d e f : AVal} {l : List TB} {t : Tok} {ys : List AVal} {σ σ2 : AHeap} {Q : AVal → AHeap → Prop} (hs : Sub σ σ2) (h : Q (.tup (.agg [a, b, c, d, e, f, lists .none (l.map (·.2))] :: ys)) σ2) : ARet (.tup (.agg [a, b, c, d, e, f, .slice 1 (l.map slB) t] :: ys)) σ Q :=
  aret (VLe.tup (VLe.cons (VLe.aggA (VLe.cons (VLe.refl _) (VLe.cons (VLe.refl _) (VLe.cons (VLe.refl _) (VLe.cons (VLe.refl _) (VLe.cons (VLe.refl _) (VLe.cons (VLe.refl _) (VLe.cons (VLe.tbs _ _) VLe.nil)))))))) fun _ _ h => h)) hs h
theorem aret_pkt0 {a b c d e f : AVal} {t : Tok} {ys : List AVal} {σ σ2 : AHeap} {Q : AVal → AHeap → Prop} (hs : Sub σ σ2) (h : Q (.tup (.agg [a, b, c, d, e, f, .slice 1 [] .none] :: ys)) σ2) : ARet (.tup (.agg [a, b, c, d, e, f, .slice 1 [] t] :: ys)) σ Q := aret_pkt (l := []) hs h
theorem bits2 {fi : Int} (h : 0 ≤ fi ∧ fi ≤ 3) : (bitsOp .and .i64 fi 2 = if wth fi = true then 2 else 0) ∧ (bitsOp .and .i64 fi 1 = if ctg fi = true then 1 else 0) := by
  rcases (show fi = 0 ∨ fi = 1 ∨ fi = 2 ∨ fi = 3 by omega) with rfl | rfl | rfl | rfl <;> decide
theorem cutVal {p : Pk} {a t g w fi v n : Int} {x : Nat} {F : List TB} (ha : 0 ≤ a) (e : cutRes p a t g w = (cutPk p a.toNat x, ((x : Nat) : Int), 0)) (hF : F.map (·.2) = pcs p.fs a.toNat x)
    (hfi : fi = if edge p.fs a.toNat = false ∨ (a = 0 ∧ wth p.fi = true) then 2 else 0) (hv : (if edge p.fs x = false ∨ (x = total p.fs ∧ ctg p.fi = true) then (1 : Int) else 0) = v) (hn : n = total p.fs) :
    AVal.tup [.agg [boolv false, i64v (fi + v), i64v p.sn, boolv true, .v (.bool (decide (((x : Nat) : Int) = n))), i64v a, lists .none (F.map (·.2))], i64v ((x : Nat) : Int), i64v 0] = .tup [amV (cutRes p a t g w).1, i64v (cutRes p a t g w).2.1, i64v (cutRes p a t g w).2.2] := by
  rw [e]
  dsimp only [amV, cutPk]
  have h1 : fi + v = cutFi p a.toNat x := by
    unfold cutFi
    rw [hv, hfi]
    congr 1
    by_cases h : edge p.fs a.toNat = false ∨ (a = 0 ∧ wth p.fi = true)
    · rw [if_pos h, if_pos (by rcases h with h | h; exact .inl h; exact .inr ⟨by omega, h.2⟩)]
    · rw [if_neg h, if_neg (fun k => h (by rcases k with k | k; exact .inl k; exact .inr ⟨by omega, k.2⟩))]
  rw [h1, hF, show ((a.toNat : Nat) : Int) = a by omega, show decide (((x : Nat) : Int) = n) = decide (x = total p.fs) from dec_congr (by omega)]
theorem cutVal0 {p : Pk} {a t g w fi n : Int} {x : Nat} {F : List TB} (ha : 0 ≤ a) (e : cutRes p a t g w = (cutPk p a.toNat x, ((x : Nat) : Int), 0)) (hF : F.map (·.2) = pcs p.fs a.toNat x)
    (hfi : fi = if edge p.fs a.toNat = false ∨ (a = 0 ∧ wth p.fi = true) then 2 else 0) (hv : (if edge p.fs x = false ∨ (x = total p.fs ∧ ctg p.fi = true) then (1 : Int) else 0) = 0) (hn : n = total p.fs) :
    AVal.tup [.agg [boolv false, i64v fi, i64v p.sn, boolv true, .v (.bool (decide (((x : Nat) : Int) = n))), i64v a, lists .none (F.map (·.2))], i64v ((x : Nat) : Int), i64v 0] = .tup [amV (cutRes p a t g w).1, i64v (cutRes p a t g w).2.1, i64v (cutRes p a t g w).2.2] := by
  have := cutVal ha e hF hfi hv hn
  rw [Int.add_zero] at this
  exact this
set_option maxRecDepth 20000 in
set_option maxHeartbeats 4000000 in
theorem gCut (p : Pk) (a t g w : Int) (σ : AHeap) (hl : p.fs.length ≤ 9223372036854775807) : ACalls Try.prog i_reseg_Cut [amV p, i64v a, i64v t, i64v g, i64v w] σ fun v σ' => v = .tup [amV (cutRes p a t g w).1, i64v (cutRes p a t g w).2.1, i64v (cutRes p a t g w).2.2] ∧ σ' = σ := by
  refine k_reseg_Cut rfl ?_
  have H := Hp.nil σ
  ((conv => whnf); (repeat ((first | with_reducible (first | refine zT rfl ?_ | refine zF rfl ?_ | refine zY rfl ?_) | refine zY (by decide) ?_ | refine zN (by decide) ?_ | with_reducible refine zQ ?_); (conv => whnf))))
  refine hnew H rfl ?_
  clear H
  intro i5 τ H
  ((conv => whnf); (repeat ((first | with_reducible (first | refine zT rfl ?_ | refine zF rfl ?_ | refine zY rfl ?_) | refine zY (by decide) ?_ | refine zN (by decide) ?_ | with_reducible refine zQ ?_); (conv => whnf))))
  refine hnew H rfl ?_
  clear H
  intro i10 τ H
  ((conv => whnf); (repeat ((first | with_reducible (first | refine zT rfl ?_ | refine zF rfl ?_ | refine zY rfl ?_) | refine zY (by decide) ?_ | refine zN (by decide) ?_ | with_reducible refine zQ ?_); (conv => whnf))))
  refine ascope' (α := Nat × Nat × Nat × Nat × Int × List TB × Tok × AHeap) (fun x => [(s13, sl .none p.fs.flatten), (s14, ints .none (endsL p.fs)), (s15, .ptr x.2.2.2.1 0), (s16, i64v (min g 4000 - amHead true w)), (s17, i64v x.2.2.1), (s18, i64v x.2.1), (s19, bif Nat.beq x.1 0 then i64v (total (p.fs.take x.2.1)) else .top)]) (fun x => x.2.2.2.2.2.2.2) (fun x => x.1)
    (fun x => ¬ noForm p w ∧ ¬ badArg p a t g ∧ ¬ goes p a t g w ∧ x.2.1 < p.fs.length ∧ total (p.fs.take x.2.1) ≤ x.2.2.1 ∧
      Hp σ [.o x.2.2.2.1 (.cells [boolv false, i64v x.2.2.2.2.1, i64v p.sn, boolv true, boolv false, i64v a, .slice 1 (x.2.2.2.2.2.1.map slB) x.2.2.2.2.2.2.1]), .t x.2.2.2.2.2.2.1, .o i10 (.cells [boolv false, i64v 0, i64v 0, boolv false, boolv false, i64v 0, .slice 1 [] .full]), .o i5 (.cells (amV p).cells)] x.2.2.2.2.2.2.2 ∧
      ((x.1 = 0 ∧ (x.2.2.1 : Int) = a ∧ x.2.2.2.2.1 = 0 ∧ x.2.2.2.2.2.1 = []) ∨
       (x.1 = 1 ∧ a.toNat ≤ x.2.2.1 ∧ (x.2.2.1 : Int) < t ∧ x.2.2.1 < total (p.fs.take (x.2.1 + 1)) ∧ (x.2.2.1 = a.toNat ∨ (1 ≤ x.2.1 ∧ x.2.2.1 = total (p.fs.take x.2.1))) ∧ (x.2.2.1 = a.toNat ↔ x.2.2.2.2.2.1 = []) ∧
        x.2.2.2.2.1 = (if edge p.fs a.toNat = false ∨ (a = 0 ∧ wth p.fi = true) then 2 else 0) ∧ x.2.2.2.2.2.1.map (·.2) = pcs p.fs a.toNat x.2.2.1 ∧ ∀ y, a.toNat ≤ y → y < x.2.2.1 → okB p.fs (min g 4000 - amHead true w) (lenW w) a.toNat y)))
    (fun x => 2 * (p.fs.length - x.2.1) + (1 - x.1)) ?_ ?_
  · ((conv => whnf); (repeat ((first | with_reducible (first | refine zT rfl ?_ | refine zF rfl ?_ | refine zY rfl ?_) | refine zY (by decide) ?_ | refine zN (by decide) ?_ | with_reducible refine zQ ?_); (conv => whnf))))
    intro hlab
    ((conv => whnf); (repeat ((first | with_reducible (first | refine zT rfl ?_ | refine zF rfl ?_ | refine zY rfl ?_) | refine zY (by decide) ?_ | refine zN (by decide) ?_ | with_reducible refine zQ ?_); (conv => whnf))))
    (repeat ((first | refine zI (by omega) ?_ | refine zE (by omega) (by omega) ?_ | refine zD (by omega) (by omega) ?_ | refine zY (by omega) ?_ | refine zN (by omega) ?_ | refine amin ?_ | refine amax ?_ | refine zU (by omega) ?_ | refine z8 (by omega) ?_ | refine zX (by omega) (by omega) ?_ | refine zR rfl ?_ | refine acellA ?_ | refine zB H b1 rfl ?_ | refine zC H b1 ?_ | refine zB H b2 rfl ?_ | refine zC H b2 ?_ | refine zB H b3 rfl ?_ | refine zC H b3 ?_ | refine zB H b4 rfl ?_ | refine zC H b4 ?_ | (apply zL H; (· repeat first | exact .h | apply AtK.t); (· rfl)) | (apply zA H; (· repeat first | exact .h | apply AtK.t)) | (apply zS H; (· repeat first | exact .h | apply AtK.t); (· rfl); (conv => whnf); clear H; intro τ H) | rw [List.length_map]); ((conv => whnf); (repeat ((first | with_reducible (first | refine zT rfl ?_ | refine zF rfl ?_ | refine zY rfl ?_) | refine zY (by decide) ?_ | refine zN (by decide) ?_ | with_reducible refine zQ ?_); (conv => whnf))))))
    by_cases hpart : p.part = true
    · refine abr_true hpart ?_
      ((conv => whnf); (repeat ((first | with_reducible (first | refine zT rfl ?_ | refine zF rfl ?_ | refine zY rfl ?_) | refine zY (by decide) ?_ | refine zN (by decide) ?_ | with_reducible refine zQ ?_); (conv => whnf))))
      (repeat ((first | refine zI (by omega) ?_ | refine zE (by omega) (by omega) ?_ | refine zD (by omega) (by omega) ?_ | refine zY (by omega) ?_ | refine zN (by omega) ?_ | refine amin ?_ | refine amax ?_ | refine zU (by omega) ?_ | refine z8 (by omega) ?_ | refine zX (by omega) (by omega) ?_ | refine zR rfl ?_ | refine acellA ?_ | refine zB H b1 rfl ?_ | refine zC H b1 ?_ | refine zB H b2 rfl ?_ | refine zC H b2 ?_ | refine zB H b3 rfl ?_ | refine zC H b3 ?_ | refine zB H b4 rfl ?_ | refine zC H b4 ?_ | (apply zL H; (· repeat first | exact .h | apply AtK.t); (· rfl)) | (apply zA H; (· repeat first | exact .h | apply AtK.t)) | (apply zS H; (· repeat first | exact .h | apply AtK.t); (· rfl); (conv => whnf); clear H; intro τ H) | rw [List.length_map]); ((conv => whnf); (repeat ((first | with_reducible (first | refine zT rfl ?_ | refine zF rfl ?_ | refine zY rfl ?_) | refine zY (by decide) ?_ | refine zN (by decide) ?_ | with_reducible refine zQ ?_); (conv => whnf))))))
      have e : cutRes p a t g w = (pk0, 0, 3) := if_pos (.inl hpart)
      exact aret_pkt0 H.sub ⟨by rw [e]; rfl, rfl⟩
    refine abr_false (by simpa using hpart) ?_
    ((conv => whnf); (repeat ((first | with_reducible (first | refine zT rfl ?_ | refine zF rfl ?_ | refine zY rfl ?_) | refine zY (by decide) ?_ | refine zN (by decide) ?_ | with_reducible refine zQ ?_); (conv => whnf))))
    (repeat ((first | refine zI (by omega) ?_ | refine zE (by omega) (by omega) ?_ | refine zD (by omega) (by omega) ?_ | refine zY (by omega) ?_ | refine zN (by omega) ?_ | refine amin ?_ | refine amax ?_ | refine zU (by omega) ?_ | refine z8 (by omega) ?_ | refine zX (by omega) (by omega) ?_ | refine zR rfl ?_ | refine acellA ?_ | refine zB H b1 rfl ?_ | refine zC H b1 ?_ | refine zB H b2 rfl ?_ | refine zC H b2 ?_ | refine zB H b3 rfl ?_ | refine zC H b3 ?_ | refine zB H b4 rfl ?_ | refine zC H b4 ?_ | (apply zL H; (· repeat first | exact .h | apply AtK.t); (· rfl)) | (apply zA H; (· repeat first | exact .h | apply AtK.t)) | (apply zS H; (· repeat first | exact .h | apply AtK.t); (· rfl); (conv => whnf); clear H; intro τ H) | rw [List.length_map]); ((conv => whnf); (repeat ((first | with_reducible (first | refine zT rfl ?_ | refine zF rfl ?_ | refine zY rfl ?_) | refine zY (by decide) ?_ | refine zN (by decide) ?_ | with_reducible refine zQ ?_); (conv => whnf))))))
    refine acall (aRight p w τ hl) ?_
    rintro _ σ_ ⟨rfl, e_⟩
    obtain rfl := e_.symm
    refine ⟨?_, Ext.refl _⟩
    ((conv => whnf); (repeat ((first | with_reducible (first | refine zT rfl ?_ | refine zF rfl ?_ | refine zY rfl ?_) | refine zY (by decide) ?_ | refine zN (by decide) ?_ | with_reducible refine zQ ?_); (conv => whnf))))
    by_cases hr : amSize p w > 0
    case neg =>
      refine abr_true (by rw [decide_eq_false hr]; rfl) ?_
      ((conv => whnf); (repeat ((first | with_reducible (first | refine zT rfl ?_ | refine zF rfl ?_ | refine zY rfl ?_) | refine zY (by decide) ?_ | refine zN (by decide) ?_ | with_reducible refine zQ ?_); (conv => whnf))))
      (repeat ((first | refine zI (by omega) ?_ | refine zE (by omega) (by omega) ?_ | refine zD (by omega) (by omega) ?_ | refine zY (by omega) ?_ | refine zN (by omega) ?_ | refine amin ?_ | refine amax ?_ | refine zU (by omega) ?_ | refine z8 (by omega) ?_ | refine zX (by omega) (by omega) ?_ | refine zR rfl ?_ | refine acellA ?_ | refine zB H b1 rfl ?_ | refine zC H b1 ?_ | refine zB H b2 rfl ?_ | refine zC H b2 ?_ | refine zB H b3 rfl ?_ | refine zC H b3 ?_ | refine zB H b4 rfl ?_ | refine zC H b4 ?_ | (apply zL H; (· repeat first | exact .h | apply AtK.t); (· rfl)) | (apply zA H; (· repeat first | exact .h | apply AtK.t)) | (apply zS H; (· repeat first | exact .h | apply AtK.t); (· rfl); (conv => whnf); clear H; intro τ H) | rw [List.length_map]); ((conv => whnf); (repeat ((first | with_reducible (first | refine zT rfl ?_ | refine zF rfl ?_ | refine zY rfl ?_) | refine zY (by decide) ?_ | refine zN (by decide) ?_ | with_reducible refine zQ ?_); (conv => whnf))))))
      have e : cutRes p a t g w = (pk0, 0, 3) := if_pos (.inr hr)
      exact aret_pkt0 H.sub ⟨by rw [e]; rfl, rfl⟩
    refine abr_false (by rw [decide_eq_true hr]; rfl) ?_
    have hnf : ¬ noForm p w := fun h => h.elim hpart (fun h => h hr)
    obtain ⟨hw, hf1, hf2, hsn, hfo, ho1, ho2, hpl⟩ := amSize_ok hr
    have g1 := hfo.one
    have g2 := hfo.most
    have g3 := hfo.fits
    have hhr := amHead_range p.part w
    have hsz0 := sizeV_range ((p.fs.length : Int) - 1) (lenW w)
    ((conv => whnf); (repeat ((first | with_reducible (first | refine zT rfl ?_ | refine zF rfl ?_ | refine zY rfl ?_) | refine zY (by decide) ?_ | refine zN (by decide) ?_ | with_reducible refine zQ ?_); (conv => whnf))))
    (repeat ((first | refine zI (by omega) ?_ | refine zE (by omega) (by omega) ?_ | refine zD (by omega) (by omega) ?_ | refine zY (by omega) ?_ | refine zN (by omega) ?_ | refine amin ?_ | refine amax ?_ | refine zU (by omega) ?_ | refine z8 (by omega) ?_ | refine zX (by omega) (by omega) ?_ | refine zR rfl ?_ | refine acellA ?_ | refine zB H b1 rfl ?_ | refine zC H b1 ?_ | refine zB H b2 rfl ?_ | refine zC H b2 ?_ | refine zB H b3 rfl ?_ | refine zC H b3 ?_ | refine zB H b4 rfl ?_ | refine zC H b4 ?_ | (apply zL H; (· repeat first | exact .h | apply AtK.t); (· rfl)) | (apply zA H; (· repeat first | exact .h | apply AtK.t)) | (apply zS H; (· repeat first | exact .h | apply AtK.t); (· rfl); (conv => whnf); clear H; intro τ H) | rw [List.length_map]); ((conv => whnf); (repeat ((first | with_reducible (first | refine zT rfl ?_ | refine zF rfl ?_ | refine zY rfl ?_) | refine zY (by decide) ?_ | refine zN (by decide) ?_ | with_reducible refine zQ ?_); (conv => whnf))))))
    refine acall (aData p τ (by omega) (by omega)) ?_
    rintro _ σ_ ⟨rfl, e_⟩
    obtain rfl := e_.symm
    refine ⟨?_, Ext.refl _⟩
    ((conv => whnf); (repeat ((first | with_reducible (first | refine zT rfl ?_ | refine zF rfl ?_ | refine zY rfl ?_) | refine zY (by decide) ?_ | refine zN (by decide) ?_ | with_reducible refine zQ ?_); (conv => whnf))))
    refine acall (gEnds p τ (by omega) (by omega)) ?_
    rintro _ σ_ ⟨rfl, e_⟩
    obtain rfl := e_.symm
    refine ⟨?_, Ext.refl _⟩
    ((conv => whnf); (repeat ((first | with_reducible (first | refine zT rfl ?_ | refine zF rfl ?_ | refine zY rfl ?_) | refine zY (by decide) ?_ | refine zN (by decide) ?_ | with_reducible refine zQ ?_); (conv => whnf))))
    have hfl : p.fs.flatten.length = total p.fs := rfl
    have bad : ∀ (h : badArg p a t g), cutRes p a t g w = (pk0, 0, 1) := fun h => by unfold cutRes; rw [if_neg hnf, if_pos h]
    by_cases c1 : g < 0
    · (repeat ((first | refine zI (by omega) ?_ | refine zE (by omega) (by omega) ?_ | refine zD (by omega) (by omega) ?_ | refine zY (by omega) ?_ | refine zN (by omega) ?_ | refine amin ?_ | refine amax ?_ | refine zU (by omega) ?_ | refine z8 (by omega) ?_ | refine zX (by omega) (by omega) ?_ | refine zR rfl ?_ | refine acellA ?_ | refine zB H b1 rfl ?_ | refine zC H b1 ?_ | refine zB H b2 rfl ?_ | refine zC H b2 ?_ | refine zB H b3 rfl ?_ | refine zC H b3 ?_ | refine zB H b4 rfl ?_ | refine zC H b4 ?_ | (apply zL H; (· repeat first | exact .h | apply AtK.t); (· rfl)) | (apply zA H; (· repeat first | exact .h | apply AtK.t)) | (apply zS H; (· repeat first | exact .h | apply AtK.t); (· rfl); (conv => whnf); clear H; intro τ H) | rw [List.length_map]); ((conv => whnf); (repeat ((first | with_reducible (first | refine zT rfl ?_ | refine zF rfl ?_ | refine zY rfl ?_) | refine zY (by decide) ?_ | refine zN (by decide) ?_ | with_reducible refine zQ ?_); (conv => whnf))))))
      exact aret_pkt0 H.sub ⟨by rw [bad (.inl c1)]; rfl, rfl⟩
    by_cases c2 : g > 4096
    · (repeat ((first | refine zI (by omega) ?_ | refine zE (by omega) (by omega) ?_ | refine zD (by omega) (by omega) ?_ | refine zY (by omega) ?_ | refine zN (by omega) ?_ | refine amin ?_ | refine amax ?_ | refine zU (by omega) ?_ | refine z8 (by omega) ?_ | refine zX (by omega) (by omega) ?_ | refine zR rfl ?_ | refine acellA ?_ | refine zB H b1 rfl ?_ | refine zC H b1 ?_ | refine zB H b2 rfl ?_ | refine zC H b2 ?_ | refine zB H b3 rfl ?_ | refine zC H b3 ?_ | refine zB H b4 rfl ?_ | refine zC H b4 ?_ | (apply zL H; (· repeat first | exact .h | apply AtK.t); (· rfl)) | (apply zA H; (· repeat first | exact .h | apply AtK.t)) | (apply zS H; (· repeat first | exact .h | apply AtK.t); (· rfl); (conv => whnf); clear H; intro τ H) | rw [List.length_map]); ((conv => whnf); (repeat ((first | with_reducible (first | refine zT rfl ?_ | refine zF rfl ?_ | refine zY rfl ?_) | refine zY (by decide) ?_ | refine zN (by decide) ?_ | with_reducible refine zQ ?_); (conv => whnf))))))
      exact aret_pkt0 H.sub ⟨by rw [bad (.inr (.inl c2))]; rfl, rfl⟩
    by_cases c3 : a < 0
    · (repeat ((first | refine zI (by omega) ?_ | refine zE (by omega) (by omega) ?_ | refine zD (by omega) (by omega) ?_ | refine zY (by omega) ?_ | refine zN (by omega) ?_ | refine amin ?_ | refine amax ?_ | refine zU (by omega) ?_ | refine z8 (by omega) ?_ | refine zX (by omega) (by omega) ?_ | refine zR rfl ?_ | refine acellA ?_ | refine zB H b1 rfl ?_ | refine zC H b1 ?_ | refine zB H b2 rfl ?_ | refine zC H b2 ?_ | refine zB H b3 rfl ?_ | refine zC H b3 ?_ | refine zB H b4 rfl ?_ | refine zC H b4 ?_ | (apply zL H; (· repeat first | exact .h | apply AtK.t); (· rfl)) | (apply zA H; (· repeat first | exact .h | apply AtK.t)) | (apply zS H; (· repeat first | exact .h | apply AtK.t); (· rfl); (conv => whnf); clear H; intro τ H) | rw [List.length_map]); ((conv => whnf); (repeat ((first | with_reducible (first | refine zT rfl ?_ | refine zF rfl ?_ | refine zY rfl ?_) | refine zY (by decide) ?_ | refine zN (by decide) ?_ | with_reducible refine zQ ?_); (conv => whnf))))))
      exact aret_pkt0 H.sub ⟨by rw [bad (.inr (.inr (.inl c3)))]; rfl, rfl⟩
    by_cases c4 : a ≥ t
    · (repeat ((first | refine zI (by omega) ?_ | refine zE (by omega) (by omega) ?_ | refine zD (by omega) (by omega) ?_ | refine zY (by omega) ?_ | refine zN (by omega) ?_ | refine amin ?_ | refine amax ?_ | refine zU (by omega) ?_ | refine z8 (by omega) ?_ | refine zX (by omega) (by omega) ?_ | refine zR rfl ?_ | refine acellA ?_ | refine zB H b1 rfl ?_ | refine zC H b1 ?_ | refine zB H b2 rfl ?_ | refine zC H b2 ?_ | refine zB H b3 rfl ?_ | refine zC H b3 ?_ | refine zB H b4 rfl ?_ | refine zC H b4 ?_ | (apply zL H; (· repeat first | exact .h | apply AtK.t); (· rfl)) | (apply zA H; (· repeat first | exact .h | apply AtK.t)) | (apply zS H; (· repeat first | exact .h | apply AtK.t); (· rfl); (conv => whnf); clear H; intro τ H) | rw [List.length_map]); ((conv => whnf); (repeat ((first | with_reducible (first | refine zT rfl ?_ | refine zF rfl ?_ | refine zY rfl ?_) | refine zY (by decide) ?_ | refine zN (by decide) ?_ | with_reducible refine zQ ?_); (conv => whnf))))))
      exact aret_pkt0 H.sub ⟨by rw [bad (.inr (.inr (.inr (.inl c4))))]; rfl, rfl⟩
    (repeat ((first | refine zI (by omega) ?_ | refine zE (by omega) (by omega) ?_ | refine zD (by omega) (by omega) ?_ | refine zY (by omega) ?_ | refine zN (by omega) ?_ | refine amin ?_ | refine amax ?_ | refine zU (by omega) ?_ | refine z8 (by omega) ?_ | refine zX (by omega) (by omega) ?_ | refine zR rfl ?_ | refine acellA ?_ | refine zB H b1 rfl ?_ | refine zC H b1 ?_ | refine zB H b2 rfl ?_ | refine zC H b2 ?_ | refine zB H b3 rfl ?_ | refine zC H b3 ?_ | refine zB H b4 rfl ?_ | refine zC H b4 ?_ | (apply zL H; (· repeat first | exact .h | apply AtK.t); (· rfl)) | (apply zA H; (· repeat first | exact .h | apply AtK.t)) | (apply zS H; (· repeat first | exact .h | apply AtK.t); (· rfl); (conv => whnf); clear H; intro τ H) | rw [List.length_map]); ((conv => whnf); (repeat ((first | with_reducible (first | refine zT rfl ?_ | refine zF rfl ?_ | refine zY rfl ?_) | refine zY (by decide) ?_ | refine zN (by decide) ?_ | with_reducible refine zQ ?_); (conv => whnf))))))
    by_cases c5 : t > total p.fs
    · (repeat ((first | refine zI (by omega) ?_ | refine zE (by omega) (by omega) ?_ | refine zD (by omega) (by omega) ?_ | refine zY (by omega) ?_ | refine zN (by omega) ?_ | refine amin ?_ | refine amax ?_ | refine zU (by omega) ?_ | refine z8 (by omega) ?_ | refine zX (by omega) (by omega) ?_ | refine zR rfl ?_ | refine acellA ?_ | refine zB H b1 rfl ?_ | refine zC H b1 ?_ | refine zB H b2 rfl ?_ | refine zC H b2 ?_ | refine zB H b3 rfl ?_ | refine zC H b3 ?_ | refine zB H b4 rfl ?_ | refine zC H b4 ?_ | (apply zL H; (· repeat first | exact .h | apply AtK.t); (· rfl)) | (apply zA H; (· repeat first | exact .h | apply AtK.t)) | (apply zS H; (· repeat first | exact .h | apply AtK.t); (· rfl); (conv => whnf); clear H; intro τ H) | rw [List.length_map]); ((conv => whnf); (repeat ((first | with_reducible (first | refine zT rfl ?_ | refine zF rfl ?_ | refine zY rfl ?_) | refine zY (by decide) ?_ | refine zN (by decide) ?_ | with_reducible refine zQ ?_); (conv => whnf))))))
      exact aret_pkt0 H.sub ⟨by rw [bad (.inr (.inr (.inr (.inr c5))))]; rfl, rfl⟩
    have hnb : ¬ badArg p a t g := by rintro (h | h | h | h | h) <;> omega
    clear bad
    have htn : min g 4000 = (if g < 4000 then g else 4000) ∨ True := .inr trivial
    by_cases hg : goes p a t g w
    · have e : cutRes p a t g w = ({ p with poll := false }, t, 0) := by unfold cutRes; rw [if_neg hnf, if_neg hnb, if_pos hg]
      obtain ⟨e1, e2, e3⟩ := hg
      (repeat ((first | refine zI (by omega) ?_ | refine zE (by omega) (by omega) ?_ | refine zD (by omega) (by omega) ?_ | refine zY (by omega) ?_ | refine zN (by omega) ?_ | refine amin ?_ | refine amax ?_ | refine zU (by omega) ?_ | refine z8 (by omega) ?_ | refine zX (by omega) (by omega) ?_ | refine zR rfl ?_ | refine acellA ?_ | refine zB H b1 rfl ?_ | refine zC H b1 ?_ | refine zB H b2 rfl ?_ | refine zC H b2 ?_ | refine zB H b3 rfl ?_ | refine zC H b3 ?_ | refine zB H b4 rfl ?_ | refine zC H b4 ?_ | (apply zL H; (· repeat first | exact .h | apply AtK.t); (· rfl)) | (apply zA H; (· repeat first | exact .h | apply AtK.t)) | (apply zS H; (· repeat first | exact .h | apply AtK.t); (· rfl); (conv => whnf); clear H; intro τ H) | rw [List.length_map]); ((conv => whnf); (repeat ((first | with_reducible (first | refine zT rfl ?_ | refine zF rfl ?_ | refine zY rfl ?_) | refine zY (by decide) ?_ | refine zN (by decide) ?_ | with_reducible refine zQ ?_); (conv => whnf))))))
      refine acall (aSize p w τ hl) ?_
      rintro _ σ_ ⟨rfl, e_⟩
      obtain rfl := e_.symm
      refine ⟨?_, Ext.refl _⟩
      ((conv => whnf); (repeat ((first | with_reducible (first | refine zT rfl ?_ | refine zF rfl ?_ | refine zY rfl ?_) | refine zY (by decide) ?_ | refine zN (by decide) ?_ | with_reducible refine zQ ?_); (conv => whnf))))
      (repeat ((first | refine zI (by omega) ?_ | refine zE (by omega) (by omega) ?_ | refine zD (by omega) (by omega) ?_ | refine zY (by omega) ?_ | refine zN (by omega) ?_ | refine amin ?_ | refine amax ?_ | refine zU (by omega) ?_ | refine z8 (by omega) ?_ | refine zX (by omega) (by omega) ?_ | refine zR rfl ?_ | refine acellA ?_ | refine zB H b1 rfl ?_ | refine zC H b1 ?_ | refine zB H b2 rfl ?_ | refine zC H b2 ?_ | refine zB H b3 rfl ?_ | refine zC H b3 ?_ | refine zB H b4 rfl ?_ | refine zC H b4 ?_ | (apply zL H; (· repeat first | exact .h | apply AtK.t); (· rfl)) | (apply zA H; (· repeat first | exact .h | apply AtK.t)) | (apply zS H; (· repeat first | exact .h | apply AtK.t); (· rfl); (conv => whnf); clear H; intro τ H) | rw [List.length_map]); ((conv => whnf); (repeat ((first | with_reducible (first | refine zT rfl ?_ | refine zF rfl ?_ | refine zY rfl ?_) | refine zY (by decide) ?_ | refine zN (by decide) ?_ | with_reducible refine zQ ?_); (conv => whnf))))))
      rw [e]
      exact aret (VLe.refl _) H.sub ⟨rfl, rfl⟩
    have hng := hg
    have cont : ∀ {K : Prop}, K → K := fun h => h
    have ha2 := amHead_range true w
    by_cases d1 : a = 0
    · by_cases d2 : t = total p.fs
      · have d3 : ¬ amSize p w ≤ g := fun h => hg ⟨d1, d2, h⟩
        (repeat ((first | refine zI (by omega) ?_ | refine zE (by omega) (by omega) ?_ | refine zD (by omega) (by omega) ?_ | refine zY (by omega) ?_ | refine zN (by omega) ?_ | refine amin ?_ | refine amax ?_ | refine zU (by omega) ?_ | refine z8 (by omega) ?_ | refine zX (by omega) (by omega) ?_ | refine zR rfl ?_ | refine acellA ?_ | refine zB H b1 rfl ?_ | refine zC H b1 ?_ | refine zB H b2 rfl ?_ | refine zC H b2 ?_ | refine zB H b3 rfl ?_ | refine zC H b3 ?_ | refine zB H b4 rfl ?_ | refine zC H b4 ?_ | (apply zL H; (· repeat first | exact .h | apply AtK.t); (· rfl)) | (apply zA H; (· repeat first | exact .h | apply AtK.t)) | (apply zS H; (· repeat first | exact .h | apply AtK.t); (· rfl); (conv => whnf); clear H; intro τ H) | rw [List.length_map]); ((conv => whnf); (repeat ((first | with_reducible (first | refine zT rfl ?_ | refine zF rfl ?_ | refine zY rfl ?_) | refine zY (by decide) ?_ | refine zN (by decide) ?_ | with_reducible refine zQ ?_); (conv => whnf))))))
        refine acall (aSize p w τ hl) ?_
        rintro _ σ_ ⟨rfl, e_⟩
        obtain rfl := e_.symm
        refine ⟨?_, Ext.refl _⟩
        ((conv => whnf); (repeat ((first | with_reducible (first | refine zT rfl ?_ | refine zF rfl ?_ | refine zY rfl ?_) | refine zY (by decide) ?_ | refine zN (by decide) ?_ | with_reducible refine zQ ?_); (conv => whnf))))
        (repeat ((first | refine zI (by omega) ?_ | refine zE (by omega) (by omega) ?_ | refine zD (by omega) (by omega) ?_ | refine zY (by omega) ?_ | refine zN (by omega) ?_ | refine amin ?_ | refine amax ?_ | refine zU (by omega) ?_ | refine z8 (by omega) ?_ | refine zX (by omega) (by omega) ?_ | refine zR rfl ?_ | refine acellA ?_ | refine zB H b1 rfl ?_ | refine zC H b1 ?_ | refine zB H b2 rfl ?_ | refine zC H b2 ?_ | refine zB H b3 rfl ?_ | refine zC H b3 ?_ | refine zB H b4 rfl ?_ | refine zC H b4 ?_ | (apply zL H; (· repeat first | exact .h | apply AtK.t); (· rfl)) | (apply zA H; (· repeat first | exact .h | apply AtK.t)) | (apply zS H; (· repeat first | exact .h | apply AtK.t); (· rfl); (conv => whnf); clear H; intro τ H) | rw [List.length_map]); ((conv => whnf); (repeat ((first | with_reducible (first | refine zT rfl ?_ | refine zF rfl ?_ | refine zY rfl ?_) | refine zY (by decide) ?_ | refine zN (by decide) ?_ | with_reducible refine zQ ?_); (conv => whnf))))))
        refine hnew H rfl ?_
        clear H
        intro i15 τ H
        ((conv => whnf); (repeat ((first | with_reducible (first | refine zT rfl ?_ | refine zF rfl ?_ | refine zY rfl ?_) | refine zY (by decide) ?_ | refine zN (by decide) ?_ | with_reducible refine zQ ?_); (conv => whnf))))
        (repeat ((first | refine zI (by omega) ?_ | refine zE (by omega) (by omega) ?_ | refine zD (by omega) (by omega) ?_ | refine zY (by omega) ?_ | refine zN (by omega) ?_ | refine amin ?_ | refine amax ?_ | refine zU (by omega) ?_ | refine z8 (by omega) ?_ | refine zX (by omega) (by omega) ?_ | refine zR rfl ?_ | refine acellA ?_ | refine zB H b1 rfl ?_ | refine zC H b1 ?_ | refine zB H b2 rfl ?_ | refine zC H b2 ?_ | refine zB H b3 rfl ?_ | refine zC H b3 ?_ | refine zB H b4 rfl ?_ | refine zC H b4 ?_ | (apply zL H; (· repeat first | exact .h | apply AtK.t); (· rfl)) | (apply zA H; (· repeat first | exact .h | apply AtK.t)) | (apply zS H; (· repeat first | exact .h | apply AtK.t); (· rfl); (conv => whnf); clear H; intro τ H) | rw [List.length_map]); ((conv => whnf); (repeat ((first | with_reducible (first | refine zT rfl ?_ | refine zF rfl ?_ | refine zY rfl ?_) | refine zY (by decide) ?_ | refine zN (by decide) ?_ | with_reducible refine zQ ?_); (conv => whnf))))))
        refine acall (aHead true w τ) ?_
        rintro _ σ_ ⟨rfl, e_⟩
        obtain rfl := e_.symm
        refine ⟨?_, Ext.refl _⟩
        ((conv => whnf); (repeat ((first | with_reducible (first | refine zT rfl ?_ | refine zF rfl ?_ | refine zY rfl ?_) | refine zY (by decide) ?_ | refine zN (by decide) ?_ | with_reducible refine zQ ?_); (conv => whnf))))
        (repeat ((first | refine zI (by omega) ?_ | refine zE (by omega) (by omega) ?_ | refine zD (by omega) (by omega) ?_ | refine zY (by omega) ?_ | refine zN (by omega) ?_ | refine amin ?_ | refine amax ?_ | refine zU (by omega) ?_ | refine z8 (by omega) ?_ | refine zX (by omega) (by omega) ?_ | refine zR rfl ?_ | refine acellA ?_ | refine zB H b1 rfl ?_ | refine zC H b1 ?_ | refine zB H b2 rfl ?_ | refine zC H b2 ?_ | refine zB H b3 rfl ?_ | refine zC H b3 ?_ | refine zB H b4 rfl ?_ | refine zC H b4 ?_ | (apply zL H; (· repeat first | exact .h | apply AtK.t); (· rfl)) | (apply zA H; (· repeat first | exact .h | apply AtK.t)) | (apply zS H; (· repeat first | exact .h | apply AtK.t); (· rfl); (conv => whnf); clear H; intro τ H) | rw [List.length_map]); ((conv => whnf); (repeat ((first | with_reducible (first | refine zT rfl ?_ | refine zF rfl ?_ | refine zY rfl ?_) | refine zY (by decide) ?_ | refine zN (by decide) ?_ | with_reducible refine zQ ?_); (conv => whnf))))))
        have hH := H
        refine hlab _ (fun _ _ _ h => h) _ _ _ _ ⟨(0, 0, a.toNat, i15, 0, [], .full, τ), rfl, ⟨hnf, hnb, hng, by dsimp only; omega, Nat.zero_le _, ?_, .inl ⟨rfl, by dsimp only; omega, rfl, rfl⟩⟩, rfl, Sub.refl _, ?_⟩
        · exact (H.cons_full).front (k := 1) rfl
        · rw [show (total (p.fs.take 0) : Int) = 0 from rfl, show ((a.toNat : Nat) : Int) = a by omega]
          ((conv => whnf); (repeat ((first | with_reducible (first | refine zT rfl ?_ | refine zF rfl ?_ | refine zY rfl ?_) | refine zY (by decide) ?_ | refine zN (by decide) ?_ | with_reducible refine zQ ?_); (conv => whnf))))
          (repeat' first | with_reducible exact EnvLe.refl _ | (refine EnvLe.node ?_ (by first | exact Or.inl rfl | exact Or.inr (Or.inl rfl) | exact Or.inr (Or.inr ⟨nofun, VLe.slice _ _ _⟩)) ?_))

      · (repeat ((first | refine zI (by omega) ?_ | refine zE (by omega) (by omega) ?_ | refine zD (by omega) (by omega) ?_ | refine zY (by omega) ?_ | refine zN (by omega) ?_ | refine amin ?_ | refine amax ?_ | refine zU (by omega) ?_ | refine z8 (by omega) ?_ | refine zX (by omega) (by omega) ?_ | refine zR rfl ?_ | refine acellA ?_ | refine zB H b1 rfl ?_ | refine zC H b1 ?_ | refine zB H b2 rfl ?_ | refine zC H b2 ?_ | refine zB H b3 rfl ?_ | refine zC H b3 ?_ | refine zB H b4 rfl ?_ | refine zC H b4 ?_ | (apply zL H; (· repeat first | exact .h | apply AtK.t); (· rfl)) | (apply zA H; (· repeat first | exact .h | apply AtK.t)) | (apply zS H; (· repeat first | exact .h | apply AtK.t); (· rfl); (conv => whnf); clear H; intro τ H) | rw [List.length_map]); ((conv => whnf); (repeat ((first | with_reducible (first | refine zT rfl ?_ | refine zF rfl ?_ | refine zY rfl ?_) | refine zY (by decide) ?_ | refine zN (by decide) ?_ | with_reducible refine zQ ?_); (conv => whnf))))))
        refine hnew H rfl ?_
        clear H
        intro i15 τ H
        ((conv => whnf); (repeat ((first | with_reducible (first | refine zT rfl ?_ | refine zF rfl ?_ | refine zY rfl ?_) | refine zY (by decide) ?_ | refine zN (by decide) ?_ | with_reducible refine zQ ?_); (conv => whnf))))
        (repeat ((first | refine zI (by omega) ?_ | refine zE (by omega) (by omega) ?_ | refine zD (by omega) (by omega) ?_ | refine zY (by omega) ?_ | refine zN (by omega) ?_ | refine amin ?_ | refine amax ?_ | refine zU (by omega) ?_ | refine z8 (by omega) ?_ | refine zX (by omega) (by omega) ?_ | refine zR rfl ?_ | refine acellA ?_ | refine zB H b1 rfl ?_ | refine zC H b1 ?_ | refine zB H b2 rfl ?_ | refine zC H b2 ?_ | refine zB H b3 rfl ?_ | refine zC H b3 ?_ | refine zB H b4 rfl ?_ | refine zC H b4 ?_ | (apply zL H; (· repeat first | exact .h | apply AtK.t); (· rfl)) | (apply zA H; (· repeat first | exact .h | apply AtK.t)) | (apply zS H; (· repeat first | exact .h | apply AtK.t); (· rfl); (conv => whnf); clear H; intro τ H) | rw [List.length_map]); ((conv => whnf); (repeat ((first | with_reducible (first | refine zT rfl ?_ | refine zF rfl ?_ | refine zY rfl ?_) | refine zY (by decide) ?_ | refine zN (by decide) ?_ | with_reducible refine zQ ?_); (conv => whnf))))))
        refine acall (aHead true w τ) ?_
        rintro _ σ_ ⟨rfl, e_⟩
        obtain rfl := e_.symm
        refine ⟨?_, Ext.refl _⟩
        ((conv => whnf); (repeat ((first | with_reducible (first | refine zT rfl ?_ | refine zF rfl ?_ | refine zY rfl ?_) | refine zY (by decide) ?_ | refine zN (by decide) ?_ | with_reducible refine zQ ?_); (conv => whnf))))
        (repeat ((first | refine zI (by omega) ?_ | refine zE (by omega) (by omega) ?_ | refine zD (by omega) (by omega) ?_ | refine zY (by omega) ?_ | refine zN (by omega) ?_ | refine amin ?_ | refine amax ?_ | refine zU (by omega) ?_ | refine z8 (by omega) ?_ | refine zX (by omega) (by omega) ?_ | refine zR rfl ?_ | refine acellA ?_ | refine zB H b1 rfl ?_ | refine zC H b1 ?_ | refine zB H b2 rfl ?_ | refine zC H b2 ?_ | refine zB H b3 rfl ?_ | refine zC H b3 ?_ | refine zB H b4 rfl ?_ | refine zC H b4 ?_ | (apply zL H; (· repeat first | exact .h | apply AtK.t); (· rfl)) | (apply zA H; (· repeat first | exact .h | apply AtK.t)) | (apply zS H; (· repeat first | exact .h | apply AtK.t); (· rfl); (conv => whnf); clear H; intro τ H) | rw [List.length_map]); ((conv => whnf); (repeat ((first | with_reducible (first | refine zT rfl ?_ | refine zF rfl ?_ | refine zY rfl ?_) | refine zY (by decide) ?_ | refine zN (by decide) ?_ | with_reducible refine zQ ?_); (conv => whnf))))))
        have hH := H
        refine hlab _ (fun _ _ _ h => h) _ _ _ _ ⟨(0, 0, a.toNat, i15, 0, [], .full, τ), rfl, ⟨hnf, hnb, hng, by dsimp only; omega, Nat.zero_le _, ?_, .inl ⟨rfl, by dsimp only; omega, rfl, rfl⟩⟩, rfl, Sub.refl _, ?_⟩
        · exact (H.cons_full).front (k := 1) rfl
        · rw [show (total (p.fs.take 0) : Int) = 0 from rfl, show ((a.toNat : Nat) : Int) = a by omega]
          ((conv => whnf); (repeat ((first | with_reducible (first | refine zT rfl ?_ | refine zF rfl ?_ | refine zY rfl ?_) | refine zY (by decide) ?_ | refine zN (by decide) ?_ | with_reducible refine zQ ?_); (conv => whnf))))
          (repeat' first | with_reducible exact EnvLe.refl _ | (refine EnvLe.node ?_ (by first | exact Or.inl rfl | exact Or.inr (Or.inl rfl) | exact Or.inr (Or.inr ⟨nofun, VLe.slice _ _ _⟩)) ?_))

    · (repeat ((first | refine zI (by omega) ?_ | refine zE (by omega) (by omega) ?_ | refine zD (by omega) (by omega) ?_ | refine zY (by omega) ?_ | refine zN (by omega) ?_ | refine amin ?_ | refine amax ?_ | refine zU (by omega) ?_ | refine z8 (by omega) ?_ | refine zX (by omega) (by omega) ?_ | refine zR rfl ?_ | refine acellA ?_ | refine zB H b1 rfl ?_ | refine zC H b1 ?_ | refine zB H b2 rfl ?_ | refine zC H b2 ?_ | refine zB H b3 rfl ?_ | refine zC H b3 ?_ | refine zB H b4 rfl ?_ | refine zC H b4 ?_ | (apply zL H; (· repeat first | exact .h | apply AtK.t); (· rfl)) | (apply zA H; (· repeat first | exact .h | apply AtK.t)) | (apply zS H; (· repeat first | exact .h | apply AtK.t); (· rfl); (conv => whnf); clear H; intro τ H) | rw [List.length_map]); ((conv => whnf); (repeat ((first | with_reducible (first | refine zT rfl ?_ | refine zF rfl ?_ | refine zY rfl ?_) | refine zY (by decide) ?_ | refine zN (by decide) ?_ | with_reducible refine zQ ?_); (conv => whnf))))))
      refine hnew H rfl ?_
      clear H
      intro i15 τ H
      ((conv => whnf); (repeat ((first | with_reducible (first | refine zT rfl ?_ | refine zF rfl ?_ | refine zY rfl ?_) | refine zY (by decide) ?_ | refine zN (by decide) ?_ | with_reducible refine zQ ?_); (conv => whnf))))
      (repeat ((first | refine zI (by omega) ?_ | refine zE (by omega) (by omega) ?_ | refine zD (by omega) (by omega) ?_ | refine zY (by omega) ?_ | refine zN (by omega) ?_ | refine amin ?_ | refine amax ?_ | refine zU (by omega) ?_ | refine z8 (by omega) ?_ | refine zX (by omega) (by omega) ?_ | refine zR rfl ?_ | refine acellA ?_ | refine zB H b1 rfl ?_ | refine zC H b1 ?_ | refine zB H b2 rfl ?_ | refine zC H b2 ?_ | refine zB H b3 rfl ?_ | refine zC H b3 ?_ | refine zB H b4 rfl ?_ | refine zC H b4 ?_ | (apply zL H; (· repeat first | exact .h | apply AtK.t); (· rfl)) | (apply zA H; (· repeat first | exact .h | apply AtK.t)) | (apply zS H; (· repeat first | exact .h | apply AtK.t); (· rfl); (conv => whnf); clear H; intro τ H) | rw [List.length_map]); ((conv => whnf); (repeat ((first | with_reducible (first | refine zT rfl ?_ | refine zF rfl ?_ | refine zY rfl ?_) | refine zY (by decide) ?_ | refine zN (by decide) ?_ | with_reducible refine zQ ?_); (conv => whnf))))))
      refine acall (aHead true w τ) ?_
      rintro _ σ_ ⟨rfl, e_⟩
      obtain rfl := e_.symm
      refine ⟨?_, Ext.refl _⟩
      ((conv => whnf); (repeat ((first | with_reducible (first | refine zT rfl ?_ | refine zF rfl ?_ | refine zY rfl ?_) | refine zY (by decide) ?_ | refine zN (by decide) ?_ | with_reducible refine zQ ?_); (conv => whnf))))
      (repeat ((first | refine zI (by omega) ?_ | refine zE (by omega) (by omega) ?_ | refine zD (by omega) (by omega) ?_ | refine zY (by omega) ?_ | refine zN (by omega) ?_ | refine amin ?_ | refine amax ?_ | refine zU (by omega) ?_ | refine z8 (by omega) ?_ | refine zX (by omega) (by omega) ?_ | refine zR rfl ?_ | refine acellA ?_ | refine zB H b1 rfl ?_ | refine zC H b1 ?_ | refine zB H b2 rfl ?_ | refine zC H b2 ?_ | refine zB H b3 rfl ?_ | refine zC H b3 ?_ | refine zB H b4 rfl ?_ | refine zC H b4 ?_ | (apply zL H; (· repeat first | exact .h | apply AtK.t); (· rfl)) | (apply zA H; (· repeat first | exact .h | apply AtK.t)) | (apply zS H; (· repeat first | exact .h | apply AtK.t); (· rfl); (conv => whnf); clear H; intro τ H) | rw [List.length_map]); ((conv => whnf); (repeat ((first | with_reducible (first | refine zT rfl ?_ | refine zF rfl ?_ | refine zY rfl ?_) | refine zY (by decide) ?_ | refine zN (by decide) ?_ | with_reducible refine zQ ?_); (conv => whnf))))))
      have hH := H
      refine hlab _ (fun _ _ _ h => h) _ _ _ _ ⟨(0, 0, a.toNat, i15, 0, [], .full, τ), rfl, ⟨hnf, hnb, hng, by dsimp only; omega, Nat.zero_le _, ?_, .inl ⟨rfl, by dsimp only; omega, rfl, rfl⟩⟩, rfl, Sub.refl _, ?_⟩
      · exact (H.cons_full).front (k := 1) rfl
      · rw [show (total (p.fs.take 0) : Int) = 0 from rfl, show ((a.toNat : Nat) : Int) = a by omega]
        ((conv => whnf); (repeat ((first | with_reducible (first | refine zT rfl ?_ | refine zF rfl ?_ | refine zY rfl ?_) | refine zY (by decide) ?_ | refine zN (by decide) ?_ | with_reducible refine zQ ?_); (conv => whnf))))
        (repeat' first | with_reducible exact EnvLe.refl _ | (refine EnvLe.node ?_ (by first | exact Or.inl rfl | exact Or.inr (Or.inl rfl) | exact Or.inr (Or.inr ⟨nofun, VLe.slice _ _ _⟩)) ?_))
  · rintro ⟨lb, f, x, pid, fi, F, tk, τ⟩ ⟨hnf, hnb, hng, hf, hfx, H, hlb⟩
    dsimp only at hf hfx H hlb ⊢
    have hr : amSize p w > 0 := Decidable.byContradiction fun h => hnf (.inr h)
    obtain ⟨hw, hf1, hf2, hsn, hfo, ho1, ho2, hpl⟩ := amSize_ok hr
    have g1 := hfo.one
    have g2 := hfo.most
    have g3 := hfo.fits
    have hhr := amHead_range p.part w
    have hht := amHead_range true w
    have hsz0 := sizeV_range ((p.fs.length : Int) - 1) (lenW w)
    obtain ⟨b1, b2⟩ := bits2 ⟨hf1, hf2⟩
    have hba : 0 ≤ a ∧ a < t ∧ t ≤ total p.fs ∧ 0 ≤ g ∧ g ≤ 4096 := by
      refine ⟨?_, ?_, ?_, ?_, ?_⟩ <;> refine Decidable.byContradiction fun h => hnb ?_
      · exact .inr (.inr (.inl (by omega)))
      · exact .inr (.inr (.inr (.inl (by omega))))
      · exact .inr (.inr (.inr (.inr (by omega))))
      · exact .inl (by omega)
      · exact .inr (.inl (by omega))
    have hts := total_take_succ p.fs f hf
    have htl := total_take_le p.fs (f + 1)
    rcases hlb with ⟨rfl, hxa, rfl, rfl⟩ | ⟨rfl, hax, hxt, hx2, hst, hFn, hfi, hF, hall⟩
    · refine ⟨_, rfl, ?_⟩
      ((conv => whnf); (repeat ((first | with_reducible (first | refine zT rfl ?_ | refine zF rfl ?_ | refine zY rfl ?_) | refine zY (by decide) ?_ | refine zN (by decide) ?_ | with_reducible refine zQ ?_); (conv => whnf))))
      intro hlab
      ((conv => whnf); (repeat ((first | with_reducible (first | refine zT rfl ?_ | refine zF rfl ?_ | refine zY rfl ?_) | refine zY (by decide) ?_ | refine zN (by decide) ?_ | with_reducible refine zQ ?_); (conv => whnf))))
      refine aget (by omega) (get_ends hf) ?_
      ((conv => whnf); (repeat ((first | with_reducible (first | refine zT rfl ?_ | refine zF rfl ?_ | refine zY rfl ?_) | refine zY (by decide) ?_ | refine zN (by decide) ?_ | with_reducible refine zQ ?_); (conv => whnf))))
      (repeat ((first | refine zI (by omega) ?_ | refine zE (by omega) (by omega) ?_ | refine zD (by omega) (by omega) ?_ | refine zY (by omega) ?_ | refine zN (by omega) ?_ | refine amin ?_ | refine amax ?_ | refine zU (by omega) ?_ | refine z8 (by omega) ?_ | refine zX (by omega) (by omega) ?_ | refine zR rfl ?_ | refine acellA ?_ | refine zB H b1 rfl ?_ | refine zC H b1 ?_ | refine zB H b2 rfl ?_ | refine zC H b2 ?_ | refine zB H b3 rfl ?_ | refine zC H b3 ?_ | refine zB H b4 rfl ?_ | refine zC H b4 ?_ | (apply zL H; (· repeat first | exact .h | apply AtK.t); (· rfl)) | (apply zA H; (· repeat first | exact .h | apply AtK.t)) | (apply zS H; (· repeat first | exact .h | apply AtK.t); (· rfl); (conv => whnf); clear H; intro τ H) | rw [List.length_map]); ((conv => whnf); (repeat ((first | with_reducible (first | refine zT rfl ?_ | refine zF rfl ?_ | refine zY rfl ?_) | refine zY (by decide) ?_ | refine zN (by decide) ?_ | with_reducible refine zQ ?_); (conv => whnf))))))
      by_cases hs : (total (p.fs.take (f + 1)) : Int) ≤ x
      · have hf2 : f + 1 < p.fs.length := by
          refine Decidable.byContradiction fun h => ?_
          rw [show f + 1 = p.fs.length by omega, List.take_length] at hs
          omega
        (repeat ((first | refine zI (by omega) ?_ | refine zE (by omega) (by omega) ?_ | refine zD (by omega) (by omega) ?_ | refine zY (by omega) ?_ | refine zN (by omega) ?_ | refine amin ?_ | refine amax ?_ | refine zU (by omega) ?_ | refine z8 (by omega) ?_ | refine zX (by omega) (by omega) ?_ | refine zR rfl ?_ | refine acellA ?_ | refine zB H b1 rfl ?_ | refine zC H b1 ?_ | refine zB H b2 rfl ?_ | refine zC H b2 ?_ | refine zB H b3 rfl ?_ | refine zC H b3 ?_ | refine zB H b4 rfl ?_ | refine zC H b4 ?_ | (apply zL H; (· repeat first | exact .h | apply AtK.t); (· rfl)) | (apply zA H; (· repeat first | exact .h | apply AtK.t)) | (apply zS H; (· repeat first | exact .h | apply AtK.t); (· rfl); (conv => whnf); clear H; intro τ H) | rw [List.length_map]); ((conv => whnf); (repeat ((first | with_reducible (first | refine zT rfl ?_ | refine zF rfl ?_ | refine zY rfl ?_) | refine zY (by decide) ?_ | refine zN (by decide) ?_ | with_reducible refine zQ ?_); (conv => whnf))))))
        refine aget (by omega) (get_ends hf) ?_
        ((conv => whnf); (repeat ((first | with_reducible (first | refine zT rfl ?_ | refine zF rfl ?_ | refine zY rfl ?_) | refine zY (by decide) ?_ | refine zN (by decide) ?_ | with_reducible refine zQ ?_); (conv => whnf))))
        (repeat ((first | refine zI (by omega) ?_ | refine zE (by omega) (by omega) ?_ | refine zD (by omega) (by omega) ?_ | refine zY (by omega) ?_ | refine zN (by omega) ?_ | refine amin ?_ | refine amax ?_ | refine zU (by omega) ?_ | refine z8 (by omega) ?_ | refine zX (by omega) (by omega) ?_ | refine zR rfl ?_ | refine acellA ?_ | refine zB H b1 rfl ?_ | refine zC H b1 ?_ | refine zB H b2 rfl ?_ | refine zC H b2 ?_ | refine zB H b3 rfl ?_ | refine zC H b3 ?_ | refine zB H b4 rfl ?_ | refine zC H b4 ?_ | (apply zL H; (· repeat first | exact .h | apply AtK.t); (· rfl)) | (apply zA H; (· repeat first | exact .h | apply AtK.t)) | (apply zS H; (· repeat first | exact .h | apply AtK.t); (· rfl); (conv => whnf); clear H; intro τ H) | rw [List.length_map]); ((conv => whnf); (repeat ((first | with_reducible (first | refine zT rfl ?_ | refine zF rfl ?_ | refine zY rfl ?_) | refine zY (by decide) ?_ | refine zN (by decide) ?_ | with_reducible refine zQ ?_); (conv => whnf))))))
        refine ⟨(0, f + 1, x, pid, 0, [], tk, τ), rfl, ⟨hnf, hnb, hng, hf2, by dsimp only; omega, H, .inl ⟨rfl, hxa, rfl, rfl⟩⟩, by dsimp only; omega, Sub.refl _, ?_⟩
        ((conv => whnf); (repeat ((first | with_reducible (first | refine zT rfl ?_ | refine zF rfl ?_ | refine zY rfl ?_) | refine zY (by decide) ?_ | refine zN (by decide) ?_ | with_reducible refine zQ ?_); (conv => whnf))))
        (repeat' first | with_reducible exact EnvLe.refl _ | (refine EnvLe.node ?_ (by first | exact Or.inl rfl | exact Or.inr (Or.inl rfl) | exact Or.inr (Or.inr ⟨nofun, VLe.slice _ _ _⟩)) ?_))
      have hx2 : x < total (p.fs.take (f + 1)) := by omega
      have hed : edge p.fs a.toNat = decide (x = total (p.fs.take f)) := by
        by_cases e : x = total (p.fs.take f)
        · rw [decide_eq_true e, show a.toNat = x by omega, e]; exact edge_take (by omega)
        · rw [decide_eq_false e, show a.toNat = x by omega]; exact edge_between hf (by omega) hx2
      (repeat ((first | refine zI (by omega) ?_ | refine zE (by omega) (by omega) ?_ | refine zD (by omega) (by omega) ?_ | refine zY (by omega) ?_ | refine zN (by omega) ?_ | refine amin ?_ | refine amax ?_ | refine zU (by omega) ?_ | refine z8 (by omega) ?_ | refine zX (by omega) (by omega) ?_ | refine zR rfl ?_ | refine acellA ?_ | refine zB H b1 rfl ?_ | refine zC H b1 ?_ | refine zB H b2 rfl ?_ | refine zC H b2 ?_ | refine zB H b3 rfl ?_ | refine zC H b3 ?_ | refine zB H b4 rfl ?_ | refine zC H b4 ?_ | (apply zL H; (· repeat first | exact .h | apply AtK.t); (· rfl)) | (apply zA H; (· repeat first | exact .h | apply AtK.t)) | (apply zS H; (· repeat first | exact .h | apply AtK.t); (· rfl); (conv => whnf); clear H; intro τ H) | rw [List.length_map]); ((conv => whnf); (repeat ((first | with_reducible (first | refine zT rfl ?_ | refine zF rfl ?_ | refine zY rfl ?_) | refine zY (by decide) ?_ | refine zN (by decide) ?_ | with_reducible refine zQ ?_); (conv => whnf))))))
      have go1 : ∀ (fi2 : Int) (υ : AHeap), (fi2 = if edge p.fs a.toNat = false ∨ (a = 0 ∧ wth p.fi = true) then 2 else 0) → Hp σ [.o pid (.cells [boolv false, i64v fi2, i64v p.sn, boolv true, boolv false, i64v a, .slice 1 (([] : List TB).map slB) tk]), .t tk, .o i10 (.cells [boolv false, i64v 0, i64v 0, boolv false, boolv false, i64v 0, .slice 1 [] .full]), .o i5 (.cells (amV p).cells)] υ →
          True := fun _ _ _ _ => trivial
      by_cases e : x = total (p.fs.take f)
      · have hed1 : edge p.fs a.toNat = true := by rw [hed]; exact decide_eq_true e
        refine abr_no (by omega) ?_
        ((conv => whnf); (repeat ((first | with_reducible (first | refine zT rfl ?_ | refine zF rfl ?_ | refine zY rfl ?_) | refine zY (by decide) ?_ | refine zN (by decide) ?_ | with_reducible refine zQ ?_); (conv => whnf))))
        by_cases ha0 : a = 0
        · (repeat ((first | refine zI (by omega) ?_ | refine zE (by omega) (by omega) ?_ | refine zD (by omega) (by omega) ?_ | refine zY (by omega) ?_ | refine zN (by omega) ?_ | refine amin ?_ | refine amax ?_ | refine zU (by omega) ?_ | refine z8 (by omega) ?_ | refine zX (by omega) (by omega) ?_ | refine zR rfl ?_ | refine acellA ?_ | refine zB H b1 rfl ?_ | refine zC H b1 ?_ | refine zB H b2 rfl ?_ | refine zC H b2 ?_ | refine zB H b3 rfl ?_ | refine zC H b3 ?_ | refine zB H b4 rfl ?_ | refine zC H b4 ?_ | (apply zL H; (· repeat first | exact .h | apply AtK.t); (· rfl)) | (apply zA H; (· repeat first | exact .h | apply AtK.t)) | (apply zS H; (· repeat first | exact .h | apply AtK.t); (· rfl); (conv => whnf); clear H; intro τ H) | rw [List.length_map]); ((conv => whnf); (repeat ((first | with_reducible (first | refine zT rfl ?_ | refine zF rfl ?_ | refine zY rfl ?_) | refine zY (by decide) ?_ | refine zN (by decide) ?_ | with_reducible refine zQ ?_); (conv => whnf))))))
          rcases (show wth p.fi = false ∨ wth p.fi = true by cases wth p.fi <;> simp) with hwt | hwt
          · rw [hwt] at b1
            refine abits_eq (m := 0) (by rw [b1]; rfl) ?_
            ((conv => whnf); (repeat ((first | with_reducible (first | refine zT rfl ?_ | refine zF rfl ?_ | refine zY rfl ?_) | refine zY (by decide) ?_ | refine zN (by decide) ?_ | with_reducible refine zQ ?_); (conv => whnf))))
            refine hlab _ (fun _ _ _ h => h) _ _ _ _ ⟨(1, f, x, pid, 0, [], tk, τ), rfl, ⟨hnf, hnb, hng, hf, hfx, H, .inr ⟨rfl, by dsimp only; omega, by dsimp only; omega, hx2, .inl (by dsimp only; omega), ⟨fun _ => rfl, fun _ => by dsimp only; omega⟩, ?_, ?_, fun y h1 h2 => by dsimp only at h2; omega⟩⟩, by dsimp only; omega, rfl, Sub.refl _, ?_⟩
            · dsimp only; rw [hed1, hwt]; simp
            · dsimp only; rw [pcs_nil (by omega)]; rfl
            · ((conv => whnf); (repeat ((first | with_reducible (first | refine zT rfl ?_ | refine zF rfl ?_ | refine zY rfl ?_) | refine zY (by decide) ?_ | refine zN (by decide) ?_ | with_reducible refine zQ ?_); (conv => whnf))))
              (repeat' first | with_reducible exact EnvLe.refl _ | (refine EnvLe.node ?_ (by first | exact Or.inl rfl | exact Or.inr (Or.inl rfl) | exact Or.inr (Or.inr ⟨nofun, VLe.slice _ _ _⟩)) ?_))
          · rw [hwt] at b1
            refine abits_eq (m := 2) (by rw [b1]; rfl) ?_
            ((conv => whnf); (repeat ((first | with_reducible (first | refine zT rfl ?_ | refine zF rfl ?_ | refine zY rfl ?_) | refine zY (by decide) ?_ | refine zN (by decide) ?_ | with_reducible refine zQ ?_); (conv => whnf))))
            (repeat ((first | refine zI (by omega) ?_ | refine zE (by omega) (by omega) ?_ | refine zD (by omega) (by omega) ?_ | refine zY (by omega) ?_ | refine zN (by omega) ?_ | refine amin ?_ | refine amax ?_ | refine zU (by omega) ?_ | refine z8 (by omega) ?_ | refine zX (by omega) (by omega) ?_ | refine zR rfl ?_ | refine acellA ?_ | refine zB H b1 rfl ?_ | refine zC H b1 ?_ | refine zB H b2 rfl ?_ | refine zC H b2 ?_ | refine zB H b3 rfl ?_ | refine zC H b3 ?_ | refine zB H b4 rfl ?_ | refine zC H b4 ?_ | (apply zL H; (· repeat first | exact .h | apply AtK.t); (· rfl)) | (apply zA H; (· repeat first | exact .h | apply AtK.t)) | (apply zS H; (· repeat first | exact .h | apply AtK.t); (· rfl); (conv => whnf); clear H; intro τ H) | rw [List.length_map]); ((conv => whnf); (repeat ((first | with_reducible (first | refine zT rfl ?_ | refine zF rfl ?_ | refine zY rfl ?_) | refine zY (by decide) ?_ | refine zN (by decide) ?_ | with_reducible refine zQ ?_); (conv => whnf))))))
            refine hlab _ (fun _ _ _ h => h) _ _ _ _ ⟨(1, f, x, pid, 2, [], tk, τ), rfl, ⟨hnf, hnb, hng, hf, hfx, H, .inr ⟨rfl, by dsimp only; omega, by dsimp only; omega, hx2, .inl (by dsimp only; omega), ⟨fun _ => rfl, fun _ => by dsimp only; omega⟩, ?_, ?_, fun y h1 h2 => by dsimp only at h2; omega⟩⟩, by dsimp only; omega, rfl, Sub.refl _, ?_⟩
            · dsimp only; rw [hwt, if_pos (.inr ⟨ha0, rfl⟩)]
            · dsimp only; rw [pcs_nil (by omega)]; rfl
            · ((conv => whnf); (repeat ((first | with_reducible (first | refine zT rfl ?_ | refine zF rfl ?_ | refine zY rfl ?_) | refine zY (by decide) ?_ | refine zN (by decide) ?_ | with_reducible refine zQ ?_); (conv => whnf))))
              (repeat' first | with_reducible exact EnvLe.refl _ | (refine EnvLe.node ?_ (by first | exact Or.inl rfl | exact Or.inr (Or.inl rfl) | exact Or.inr (Or.inr ⟨nofun, VLe.slice _ _ _⟩)) ?_))
        · (repeat ((first | refine zI (by omega) ?_ | refine zE (by omega) (by omega) ?_ | refine zD (by omega) (by omega) ?_ | refine zY (by omega) ?_ | refine zN (by omega) ?_ | refine amin ?_ | refine amax ?_ | refine zU (by omega) ?_ | refine z8 (by omega) ?_ | refine zX (by omega) (by omega) ?_ | refine zR rfl ?_ | refine acellA ?_ | refine zB H b1 rfl ?_ | refine zC H b1 ?_ | refine zB H b2 rfl ?_ | refine zC H b2 ?_ | refine zB H b3 rfl ?_ | refine zC H b3 ?_ | refine zB H b4 rfl ?_ | refine zC H b4 ?_ | (apply zL H; (· repeat first | exact .h | apply AtK.t); (· rfl)) | (apply zA H; (· repeat first | exact .h | apply AtK.t)) | (apply zS H; (· repeat first | exact .h | apply AtK.t); (· rfl); (conv => whnf); clear H; intro τ H) | rw [List.length_map]); ((conv => whnf); (repeat ((first | with_reducible (first | refine zT rfl ?_ | refine zF rfl ?_ | refine zY rfl ?_) | refine zY (by decide) ?_ | refine zN (by decide) ?_ | with_reducible refine zQ ?_); (conv => whnf))))))
          refine hlab _ (fun _ _ _ h => h) _ _ _ _ ⟨(1, f, x, pid, 0, [], tk, τ), rfl, ⟨hnf, hnb, hng, hf, hfx, H, .inr ⟨rfl, by dsimp only; omega, by dsimp only; omega, hx2, .inl (by dsimp only; omega), ⟨fun _ => rfl, fun _ => by dsimp only; omega⟩, ?_, ?_, fun y h1 h2 => by dsimp only at h2; omega⟩⟩, by dsimp only; omega, rfl, Sub.refl _, ?_⟩
          · dsimp only; rw [if_neg]; rintro (h | h); rw [hed1] at h; cases h; exact ha0 h.1
          · dsimp only; rw [pcs_nil (by omega)]; rfl
          · ((conv => whnf); (repeat ((first | with_reducible (first | refine zT rfl ?_ | refine zF rfl ?_ | refine zY rfl ?_) | refine zY (by decide) ?_ | refine zN (by decide) ?_ | with_reducible refine zQ ?_); (conv => whnf))))
            (repeat' first | with_reducible exact EnvLe.refl _ | (refine EnvLe.node ?_ (by first | exact Or.inl rfl | exact Or.inr (Or.inl rfl) | exact Or.inr (Or.inr ⟨nofun, VLe.slice _ _ _⟩)) ?_))
      · have hed0 : edge p.fs a.toNat = false := by rw [hed]; exact decide_eq_false e
        refine abr_yes (by omega) ?_
        ((conv => whnf); (repeat ((first | with_reducible (first | refine zT rfl ?_ | refine zF rfl ?_ | refine zY rfl ?_) | refine zY (by decide) ?_ | refine zN (by decide) ?_ | with_reducible refine zQ ?_); (conv => whnf))))
        (repeat ((first | refine zI (by omega) ?_ | refine zE (by omega) (by omega) ?_ | refine zD (by omega) (by omega) ?_ | refine zY (by omega) ?_ | refine zN (by omega) ?_ | refine amin ?_ | refine amax ?_ | refine zU (by omega) ?_ | refine z8 (by omega) ?_ | refine zX (by omega) (by omega) ?_ | refine zR rfl ?_ | refine acellA ?_ | refine zB H b1 rfl ?_ | refine zC H b1 ?_ | refine zB H b2 rfl ?_ | refine zC H b2 ?_ | refine zB H b3 rfl ?_ | refine zC H b3 ?_ | refine zB H b4 rfl ?_ | refine zC H b4 ?_ | (apply zL H; (· repeat first | exact .h | apply AtK.t); (· rfl)) | (apply zA H; (· repeat first | exact .h | apply AtK.t)) | (apply zS H; (· repeat first | exact .h | apply AtK.t); (· rfl); (conv => whnf); clear H; intro τ H) | rw [List.length_map]); ((conv => whnf); (repeat ((first | with_reducible (first | refine zT rfl ?_ | refine zF rfl ?_ | refine zY rfl ?_) | refine zY (by decide) ?_ | refine zN (by decide) ?_ | with_reducible refine zQ ?_); (conv => whnf))))))
        refine hlab _ (fun _ _ _ h => h) _ _ _ _ ⟨(1, f, x, pid, 2, [], tk, τ), rfl, ⟨hnf, hnb, hng, hf, hfx, H, .inr ⟨rfl, by dsimp only; omega, by dsimp only; omega, hx2, .inl (by dsimp only; omega), ⟨fun _ => rfl, fun _ => by dsimp only; omega⟩, ?_, ?_, fun y h1 h2 => by dsimp only at h2; omega⟩⟩, by dsimp only; omega, rfl, Sub.refl _, ?_⟩
        · dsimp only; rw [if_pos (.inl hed0)]
        · dsimp only; rw [pcs_nil (by omega)]; rfl
        · ((conv => whnf); (repeat ((first | with_reducible (first | refine zT rfl ?_ | refine zF rfl ?_ | refine zY rfl ?_) | refine zY (by decide) ?_ | refine zN (by decide) ?_ | with_reducible refine zQ ?_); (conv => whnf))))
          (repeat' first | with_reducible exact EnvLe.refl _ | (refine EnvLe.node ?_ (by first | exact Or.inl rfl | exact Or.inr (Or.inl rfl) | exact Or.inr (Or.inr ⟨nofun, VLe.slice _ _ _⟩)) ?_))
    · refine ⟨_, rfl, ?_⟩
      ((conv => whnf); (repeat ((first | with_reducible (first | refine zT rfl ?_ | refine zF rfl ?_ | refine zY rfl ?_) | refine zY (by decide) ?_ | refine zN (by decide) ?_ | with_reducible refine zQ ?_); (conv => whnf))))
      intro hlab
      ((conv => whnf); (repeat ((first | with_reducible (first | refine zT rfl ?_ | refine zF rfl ?_ | refine zY rfl ?_) | refine zY (by decide) ?_ | refine zN (by decide) ?_ | with_reducible refine zQ ?_); (conv => whnf))))
      (repeat ((first | refine zI (by omega) ?_ | refine zE (by omega) (by omega) ?_ | refine zD (by omega) (by omega) ?_ | refine zY (by omega) ?_ | refine zN (by omega) ?_ | refine amin ?_ | refine amax ?_ | refine zU (by omega) ?_ | refine z8 (by omega) ?_ | refine zX (by omega) (by omega) ?_ | refine zR rfl ?_ | refine acellA ?_ | refine zB H b1 rfl ?_ | refine zC H b1 ?_ | refine zB H b2 rfl ?_ | refine zC H b2 ?_ | refine zB H b3 rfl ?_ | refine zC H b3 ?_ | refine zB H b4 rfl ?_ | refine zC H b4 ?_ | (apply zL H; (· repeat first | exact .h | apply AtK.t); (· rfl)) | (apply zA H; (· repeat first | exact .h | apply AtK.t)) | (apply zS H; (· repeat first | exact .h | apply AtK.t); (· rfl); (conv => whnf); clear H; intro τ H) | rw [List.length_map]); ((conv => whnf); (repeat ((first | with_reducible (first | refine zT rfl ?_ | refine zF rfl ?_ | refine zY rfl ?_) | refine zY (by decide) ?_ | refine zN (by decide) ?_ | with_reducible refine zQ ?_); (conv => whnf))))))
      refine acall (gLenWidth w τ) ?_
      rintro _ σ_ ⟨rfl, e_⟩
      obtain rfl := e_.symm
      refine ⟨?_, Ext.refl _⟩
      ((conv => whnf); (repeat ((first | with_reducible (first | refine zT rfl ?_ | refine zF rfl ?_ | refine zY rfl ?_) | refine zY (by decide) ?_ | refine zN (by decide) ?_ | with_reducible refine zQ ?_); (conv => whnf))))
      refine acall (lSize (F.length : Int) (lenW w) τ) ?_
      rintro _ σ_ ⟨rfl, e_⟩
      obtain rfl := e_.symm
      refine ⟨?_, Ext.refl _⟩
      ((conv => whnf); (repeat ((first | with_reducible (first | refine zT rfl ?_ | refine zF rfl ?_ | refine zY rfl ?_) | refine zY (by decide) ?_ | refine zN (by decide) ?_ | with_reducible refine zQ ?_); (conv => whnf))))
      have hsz := sizeV_range (F.length : Int) (lenW w)
      (repeat ((first | refine zI (by omega) ?_ | refine zE (by omega) (by omega) ?_ | refine zD (by omega) (by omega) ?_ | refine zY (by omega) ?_ | refine zN (by omega) ?_ | refine amin ?_ | refine amax ?_ | refine zU (by omega) ?_ | refine z8 (by omega) ?_ | refine zX (by omega) (by omega) ?_ | refine zR rfl ?_ | refine acellA ?_ | refine zB H b1 rfl ?_ | refine zC H b1 ?_ | refine zB H b2 rfl ?_ | refine zC H b2 ?_ | refine zB H b3 rfl ?_ | refine zC H b3 ?_ | refine zB H b4 rfl ?_ | refine zC H b4 ?_ | (apply zL H; (· repeat first | exact .h | apply AtK.t); (· rfl)) | (apply zA H; (· repeat first | exact .h | apply AtK.t)) | (apply zS H; (· repeat first | exact .h | apply AtK.t); (· rfl); (conv => whnf); clear H; intro τ H) | rw [List.length_map]); ((conv => whnf); (repeat ((first | with_reducible (first | refine zT rfl ?_ | refine zF rfl ?_ | refine zY rfl ?_) | refine zY (by decide) ?_ | refine zN (by decide) ?_ | with_reducible refine zQ ?_); (conv => whnf))))))
      refine aget (by omega) (get_ends hf) ?_
      ((conv => whnf); (repeat ((first | with_reducible (first | refine zT rfl ?_ | refine zF rfl ?_ | refine zY rfl ?_) | refine zY (by decide) ?_ | refine zN (by decide) ?_ | with_reducible refine zQ ?_); (conv => whnf))))
      (repeat ((first | refine zI (by omega) ?_ | refine zE (by omega) (by omega) ?_ | refine zD (by omega) (by omega) ?_ | refine zY (by omega) ?_ | refine zN (by omega) ?_ | refine amin ?_ | refine amax ?_ | refine zU (by omega) ?_ | refine z8 (by omega) ?_ | refine zX (by omega) (by omega) ?_ | refine zR rfl ?_ | refine acellA ?_ | refine zB H b1 rfl ?_ | refine zC H b1 ?_ | refine zB H b2 rfl ?_ | refine zC H b2 ?_ | refine zB H b3 rfl ?_ | refine zC H b3 ?_ | refine zB H b4 rfl ?_ | refine zC H b4 ?_ | (apply zL H; (· repeat first | exact .h | apply AtK.t); (· rfl)) | (apply zA H; (· repeat first | exact .h | apply AtK.t)) | (apply zS H; (· repeat first | exact .h | apply AtK.t); (· rfl); (conv => whnf); clear H; intro τ H) | rw [List.length_map]); ((conv => whnf); (repeat ((first | with_reducible (first | refine zT rfl ?_ | refine zF rfl ?_ | refine zY rfl ?_) | refine zY (by decide) ?_ | refine zN (by decide) ?_ | with_reducible refine zQ ?_); (conv => whnf))))))
      have hdl : p.fs.flatten.length = total p.fs := rfl
      obtain ⟨hi, lo, hFlen⟩ : True ∧ True ∧ F.length = (pcs p.fs a.toNat x).length := ⟨trivial, trivial, by rw [← hF, List.length_map]⟩
      have hFle : F.length ≤ p.fs.length := by rw [hFlen]; exact pcs_len
      have hnew : ∀ y, x < y → y ≤ total (p.fs.take (f + 1)) → pcs p.fs a.toNat y = pcs p.fs a.toNat x ++ [(p.fs.flatten.take y).drop x] := fun y h1 h2 =>
        pcs_new hax h1 (by omega) (by rcases hst with h | h; exact .inl h; exact .inr (by rw [h.2]; exact edge_take (by omega))) (fun z h3 h4 => edge_between hf (by omega) (by omega))
      obtain ⟨room, hroom⟩ : ∃ room, room = min g 4000 - amHead true w := ⟨_, rfl⟩
      rw [← hroom] at hall ⊢
      obtain ⟨left, hleft⟩ : ∃ left, left = room - ((x : Int) - a) - sizeV (F.length : Int) (lenW w) := ⟨_, rfl⟩
      rw [← hleft]
      have hok : ∀ y, x ≤ y → y < total (p.fs.take (f + 1)) → (okB p.fs room (lenW w) a.toNat y ↔ (y : Int) < x + left) := fun y h1 h2 => by
        unfold okB
        rw [hnew (y + 1) (by omega) (by omega), List.length_append, ← hFlen, show ((F.length + [((p.fs.flatten.take (y + 1)).drop x)].length : Nat) : Int) - 1 = (F.length : Int) by rw [List.length_singleton]; omega]
        omega
      obtain ⟨n, hn⟩ : ∃ n, n = min (min left ((total (p.fs.take (f + 1)) : Int) - x)) (t - x) := ⟨_, rfl⟩
      rw [← hn]
      have hcA : ∀ {y : Nat}, cutEnd p.fs room (lenW w) a.toNat (t.toNat - a.toNat) a.toNat = y → cutAt p a t g w = y := fun h => by unfold cutAt; rw [← hroom]; exact h
      by_cases hn1 : n ≥ 1
      · (repeat ((first | refine zI (by omega) ?_ | refine zE (by omega) (by omega) ?_ | refine zD (by omega) (by omega) ?_ | refine zY (by omega) ?_ | refine zN (by omega) ?_ | refine amin ?_ | refine amax ?_ | refine zU (by omega) ?_ | refine z8 (by omega) ?_ | refine zX (by omega) (by omega) ?_ | refine zR rfl ?_ | refine acellA ?_ | refine zB H b1 rfl ?_ | refine zC H b1 ?_ | refine zB H b2 rfl ?_ | refine zC H b2 ?_ | refine zB H b3 rfl ?_ | refine zC H b3 ?_ | refine zB H b4 rfl ?_ | refine zC H b4 ?_ | (apply zL H; (· repeat first | exact .h | apply AtK.t); (· rfl)) | (apply zA H; (· repeat first | exact .h | apply AtK.t)) | (apply zS H; (· repeat first | exact .h | apply AtK.t); (· rfl); (conv => whnf); clear H; intro τ H) | rw [List.length_map]); ((conv => whnf); (repeat ((first | with_reducible (first | refine zT rfl ?_ | refine zF rfl ?_ | refine zY rfl ?_) | refine zY (by decide) ?_ | refine zN (by decide) ?_ | with_reducible refine zQ ?_); (conv => whnf))))))
        refine acut (by omega) (by omega) (by omega) ?_
        ((conv => whnf); (repeat ((first | with_reducible (first | refine zT rfl ?_ | refine zF rfl ?_ | refine zY rfl ?_) | refine zY (by decide) ?_ | refine zN (by decide) ?_ | with_reducible refine zQ ?_); (conv => whnf))))
        refine happF H (by rw [List.length_drop, List.length_take, List.length_map]; show (0 + _) * 1 ≤ _; omega) ?_
        clear H
        intro tk1 τ H
        ((conv => whnf); (repeat ((first | with_reducible (first | refine zT rfl ?_ | refine zF rfl ?_ | refine zY rfl ?_) | refine zY (by decide) ?_ | refine zN (by decide) ?_ | with_reducible refine zQ ?_); (conv => whnf))))
        apply zP H
        · (repeat first | exact .h | apply AtK.t)
        · exact (by rw [List.length_map]; show (F.length + 1) * 24 ≤ _; omega)
        intro tk2
        (conv => whnf)
        clear H
        intro τ H
        ((conv => whnf); (repeat ((first | with_reducible (first | refine zT rfl ?_ | refine zF rfl ?_ | refine zY rfl ?_) | refine zY (by decide) ?_ | refine zN (by decide) ?_ | with_reducible refine zQ ?_); (conv => whnf))))
        obtain ⟨m, hm⟩ : ∃ m : Nat, n = m := ⟨n.toNat, by omega⟩
        have hcut : [] ++ List.drop ((x : Nat) : Int).toNat (List.take ((x : Int) + n).toNat (p.fs.flatten.map byteV)) = ((p.fs.flatten.take (x + m)).drop x).map byteV := by
          rw [List.nil_append, hm, Int.toNat_natCast, show ((x : Int) + (m : Nat)).toNat = x + m by omega, List.map_drop, List.map_take]
        rw [hcut] at *
        have hap : F.map slB ++ [.slice 1 (((p.fs.flatten.take (x + m)).drop x).map byteV) tk1] = (F ++ [(tk1, (p.fs.flatten.take (x + m)).drop x)]).map slB := by rw [List.map_append]; rfl
        rw [hap] at *
        (repeat ((first | refine zI (by omega) ?_ | refine zE (by omega) (by omega) ?_ | refine zD (by omega) (by omega) ?_ | refine zY (by omega) ?_ | refine zN (by omega) ?_ | refine amin ?_ | refine amax ?_ | refine zU (by omega) ?_ | refine z8 (by omega) ?_ | refine zX (by omega) (by omega) ?_ | refine zR rfl ?_ | refine acellA ?_ | refine zB H b1 rfl ?_ | refine zC H b1 ?_ | refine zB H b2 rfl ?_ | refine zC H b2 ?_ | refine zB H b3 rfl ?_ | refine zC H b3 ?_ | refine zB H b4 rfl ?_ | refine zC H b4 ?_ | (apply zL H; (· repeat first | exact .h | apply AtK.t); (· rfl)) | (apply zA H; (· repeat first | exact .h | apply AtK.t)) | (apply zS H; (· repeat first | exact .h | apply AtK.t); (· rfl); (conv => whnf); clear H; intro τ H) | rw [List.length_map]); ((conv => whnf); (repeat ((first | with_reducible (first | refine zT rfl ?_ | refine zF rfl ?_ | refine zY rfl ?_) | refine zY (by decide) ?_ | refine zN (by decide) ?_ | with_reducible refine zQ ?_); (conv => whnf))))))
        refine aget (by omega) (get_ends hf) ?_
        ((conv => whnf); (repeat ((first | with_reducible (first | refine zT rfl ?_ | refine zF rfl ?_ | refine zY rfl ?_) | refine zY (by decide) ?_ | refine zN (by decide) ?_ | with_reducible refine zQ ?_); (conv => whnf))))
        have hpn := hnew (x + m) (by omega) (by omega)
        have hall2 : ∀ y, a.toNat ≤ y → y < x + m → okB p.fs room (lenW w) a.toNat y := fun y h1 h2 => by
          by_cases hy : y < x
          · exact hall y h1 hy
          · exact (hok y (by omega) (by omega)).2 (by omega)
        have hFl2 : (F ++ [(tk1, (p.fs.flatten.take (x + m)).drop x)]).map (·.2) = pcs p.fs a.toNat (x + m) := by rw [hpn, List.map_append, hF]; rfl
        have hFN2 : x + m = a.toNat ↔ F ++ [(tk1, (p.fs.flatten.take (x + m)).drop x)] = [] := ⟨fun h => by omega, fun h => by simp at h⟩
        rw [show ((x : Int) + n) = ((x + m : Nat) : Int) by omega]
        by_cases e1 : x + m = total (p.fs.take (f + 1)) ∧ ((x + m : Nat) : Int) < t
        · have hf2 : f + 1 < p.fs.length := by
            refine Decidable.byContradiction fun h => ?_
            have := e1.1
            rw [show f + 1 = p.fs.length by omega, List.take_length] at this
            omega
          have hne := (hfo.each (f + 1) hf2).1
          have hts2 := total_take_succ p.fs (f + 1) hf2
          (repeat ((first | refine zI (by omega) ?_ | refine zE (by omega) (by omega) ?_ | refine zD (by omega) (by omega) ?_ | refine zY (by omega) ?_ | refine zN (by omega) ?_ | refine amin ?_ | refine amax ?_ | refine zU (by omega) ?_ | refine z8 (by omega) ?_ | refine zX (by omega) (by omega) ?_ | refine zR rfl ?_ | refine acellA ?_ | refine zB H b1 rfl ?_ | refine zC H b1 ?_ | refine zB H b2 rfl ?_ | refine zC H b2 ?_ | refine zB H b3 rfl ?_ | refine zC H b3 ?_ | refine zB H b4 rfl ?_ | refine zC H b4 ?_ | (apply zL H; (· repeat first | exact .h | apply AtK.t); (· rfl)) | (apply zA H; (· repeat first | exact .h | apply AtK.t)) | (apply zS H; (· repeat first | exact .h | apply AtK.t); (· rfl); (conv => whnf); clear H; intro τ H) | rw [List.length_map]); ((conv => whnf); (repeat ((first | with_reducible (first | refine zT rfl ?_ | refine zF rfl ?_ | refine zY rfl ?_) | refine zY (by decide) ?_ | refine zN (by decide) ?_ | with_reducible refine zQ ?_); (conv => whnf))))))
          refine ⟨(1, f + 1, x + m, pid, fi, F ++ [(tk1, (p.fs.flatten.take (x + m)).drop x)], tk2, τ), rfl, ⟨hnf, hnb, hng, hf2, by dsimp only; omega, H.tail, .inr ⟨rfl, by dsimp only; omega, e1.2, by dsimp only; omega, .inr ⟨by dsimp only; omega, e1.1⟩, hFN2, hfi, hFl2, hall2⟩⟩, by dsimp only; omega, Sub.refl _, ?_⟩
          ((conv => whnf); (repeat ((first | with_reducible (first | refine zT rfl ?_ | refine zF rfl ?_ | refine zY rfl ?_) | refine zY (by decide) ?_ | refine zN (by decide) ?_ | with_reducible refine zQ ?_); (conv => whnf))))
          (repeat' first | with_reducible exact EnvLe.refl _ | (refine EnvLe.node ?_ (by first | exact Or.inl rfl | exact Or.inr (Or.inl rfl) | exact Or.inr (Or.inr ⟨nofun, VLe.slice _ _ _⟩)) ?_))
        have hnok : ((x + m : Nat) : Int) < t → ¬ okB p.fs room (lenW w) a.toNat (x + m) := fun h => by
          rw [hok (x + m) (by omega) (by omega)]; omega
        have hfl := hf
        have heg : edge p.fs (x + m) = true ↔ x + m = total (p.fs.take (f + 1)) := by
          constructor
          · intro h
            refine Decidable.byContradiction fun hn => ?_
            rw [edge_between hf (by omega) (by omega)] at h; cases h
          · intro h; rw [h]; exact edge_take (by omega)
        by_cases e3 : x + m = total (p.fs.take (f + 1))
        · (repeat ((first | refine zI (by omega) ?_ | refine zE (by omega) (by omega) ?_ | refine zD (by omega) (by omega) ?_ | refine zY (by omega) ?_ | refine zN (by omega) ?_ | refine amin ?_ | refine amax ?_ | refine zU (by omega) ?_ | refine z8 (by omega) ?_ | refine zX (by omega) (by omega) ?_ | refine zR rfl ?_ | refine acellA ?_ | refine zB H b1 rfl ?_ | refine zC H b1 ?_ | refine zB H b2 rfl ?_ | refine zC H b2 ?_ | refine zB H b3 rfl ?_ | refine zC H b3 ?_ | refine zB H b4 rfl ?_ | refine zC H b4 ?_ | (apply zL H; (· repeat first | exact .h | apply AtK.t); (· rfl)) | (apply zA H; (· repeat first | exact .h | apply AtK.t)) | (apply zS H; (· repeat first | exact .h | apply AtK.t); (· rfl); (conv => whnf); clear H; intro τ H) | rw [List.length_map]); ((conv => whnf); (repeat ((first | with_reducible (first | refine zT rfl ?_ | refine zF rfl ?_ | refine zY rfl ?_) | refine zY (by decide) ?_ | refine zN (by decide) ?_ | with_reducible refine zQ ?_); (conv => whnf))))))
          have hedg : edge p.fs (x + m) = true := heg.2 e3
          have hcx : cutAt p a t g w = (x + m) := hcA (cutEnd_eq (t := t.toNat) (by omega) (by omega) hall2 (fun h => hnok (by omega)))
          by_cases hx0 : (x + m) = a.toNat
          · have hFn2 : F ++ [(tk1, (p.fs.flatten.take (x + m)).drop x)] = [] := hFN2.1 hx0
            have e : cutRes p a t g w = (pk0, 0, 16) := by unfold cutRes; rw [if_neg hnf, if_neg hnb, if_neg hng, hcx, if_pos hx0]
            have hFl0 : (F ++ [(tk1, (p.fs.flatten.take (x + m)).drop x)]).length = 0 := by rw [hFn2]; rfl
            (repeat ((first | refine zI (by omega) ?_ | refine zE (by omega) (by omega) ?_ | refine zD (by omega) (by omega) ?_ | refine zY (by omega) ?_ | refine zN (by omega) ?_ | refine amin ?_ | refine amax ?_ | refine zU (by omega) ?_ | refine z8 (by omega) ?_ | refine zX (by omega) (by omega) ?_ | refine zR rfl ?_ | refine acellA ?_ | refine zB H b1 rfl ?_ | refine zC H b1 ?_ | refine zB H b2 rfl ?_ | refine zC H b2 ?_ | refine zB H b3 rfl ?_ | refine zC H b3 ?_ | refine zB H b4 rfl ?_ | refine zC H b4 ?_ | (apply zL H; (· repeat first | exact .h | apply AtK.t); (· rfl)) | (apply zA H; (· repeat first | exact .h | apply AtK.t)) | (apply zS H; (· repeat first | exact .h | apply AtK.t); (· rfl); (conv => whnf); clear H; intro τ H) | rw [List.length_map]); ((conv => whnf); (repeat ((first | with_reducible (first | refine zT rfl ?_ | refine zF rfl ?_ | refine zY rfl ?_) | refine zY (by decide) ?_ | refine zN (by decide) ?_ | with_reducible refine zQ ?_); (conv => whnf))))))
            exact aret_pkt0 H.sub ⟨by rw [e]; rfl, rfl⟩
          have hFne : (F ++ [(tk1, (p.fs.flatten.take (x + m)).drop x)]).length ≠ 0 := fun h => hx0 (hFN2.2 (List.length_eq_zero_iff.1 h))
          have e : cutRes p a t g w = (cutPk p a.toNat ((x + m)), (((x + m) : Nat) : Int), 0) := by unfold cutRes; rw [if_neg hnf, if_neg hnb, if_neg hng, hcx, if_neg hx0]
          (repeat ((first | refine zI (by omega) ?_ | refine zE (by omega) (by omega) ?_ | refine zD (by omega) (by omega) ?_ | refine zY (by omega) ?_ | refine zN (by omega) ?_ | refine amin ?_ | refine amax ?_ | refine zU (by omega) ?_ | refine z8 (by omega) ?_ | refine zX (by omega) (by omega) ?_ | refine zR rfl ?_ | refine acellA ?_ | refine zB H b1 rfl ?_ | refine zC H b1 ?_ | refine zB H b2 rfl ?_ | refine zC H b2 ?_ | refine zB H b3 rfl ?_ | refine zC H b3 ?_ | refine zB H b4 rfl ?_ | refine zC H b4 ?_ | (apply zL H; (· repeat first | exact .h | apply AtK.t); (· rfl)) | (apply zA H; (· repeat first | exact .h | apply AtK.t)) | (apply zS H; (· repeat first | exact .h | apply AtK.t); (· rfl); (conv => whnf); clear H; intro τ H) | rw [List.length_map]); ((conv => whnf); (repeat ((first | with_reducible (first | refine zT rfl ?_ | refine zF rfl ?_ | refine zY rfl ?_) | refine zY (by decide) ?_ | refine zN (by decide) ?_ | with_reducible refine zQ ?_); (conv => whnf))))))
          refine aget (by omega) (get_ends hfl) ?_
          ((conv => whnf); (repeat ((first | with_reducible (first | refine zT rfl ?_ | refine zF rfl ?_ | refine zY rfl ?_) | refine zY (by decide) ?_ | refine zN (by decide) ?_ | with_reducible refine zQ ?_); (conv => whnf))))
          refine acell rfl ?_
          ((conv => whnf); (repeat ((first | with_reducible (first | refine zT rfl ?_ | refine zF rfl ?_ | refine zY rfl ?_) | refine zY (by decide) ?_ | refine zN (by decide) ?_ | with_reducible refine zQ ?_); (conv => whnf))))
          have hfi01 : fi = 0 ∨ fi = 2 := by rw [hfi]; split <;> simp
          have hor : bitsOp .or .i64 fi 1 = fi + 1 := by rcases hfi01 with h | h <;> rw [h] <;> decide
          have hq : (x + m) = total (p.fs.take (f + 1)) := heg.1 hedg
          refine abr_no (by omega) ?_
          ((conv => whnf); (repeat ((first | with_reducible (first | refine zT rfl ?_ | refine zF rfl ?_ | refine zY rfl ?_) | refine zY (by decide) ?_ | refine zN (by decide) ?_ | with_reducible refine zQ ?_); (conv => whnf))))
          by_cases hxd : (x + m) = total p.fs
          · (repeat ((first | refine zI (by omega) ?_ | refine zE (by omega) (by omega) ?_ | refine zD (by omega) (by omega) ?_ | refine zY (by omega) ?_ | refine zN (by omega) ?_ | refine amin ?_ | refine amax ?_ | refine zU (by omega) ?_ | refine z8 (by omega) ?_ | refine zX (by omega) (by omega) ?_ | refine zR rfl ?_ | refine acellA ?_ | refine zB H b1 rfl ?_ | refine zC H b1 ?_ | refine zB H b2 rfl ?_ | refine zC H b2 ?_ | refine zB H b3 rfl ?_ | refine zC H b3 ?_ | refine zB H b4 rfl ?_ | refine zC H b4 ?_ | (apply zL H; (· repeat first | exact .h | apply AtK.t); (· rfl)) | (apply zA H; (· repeat first | exact .h | apply AtK.t)) | (apply zS H; (· repeat first | exact .h | apply AtK.t); (· rfl); (conv => whnf); clear H; intro τ H) | rw [List.length_map]); ((conv => whnf); (repeat ((first | with_reducible (first | refine zT rfl ?_ | refine zF rfl ?_ | refine zY rfl ?_) | refine zY (by decide) ?_ | refine zN (by decide) ?_ | with_reducible refine zQ ?_); (conv => whnf))))))
            rcases (show ctg p.fi = false ∨ ctg p.fi = true by cases ctg p.fi <;> simp) with hct | hct
            · rw [hct] at b2
              refine abits_eq (m := 0) (by rw [b2]; rfl) ?_
              ((conv => whnf); (repeat ((first | with_reducible (first | refine zT rfl ?_ | refine zF rfl ?_ | refine zY rfl ?_) | refine zY (by decide) ?_ | refine zN (by decide) ?_ | with_reducible refine zQ ?_); (conv => whnf))))
              (repeat ((first | refine zI (by omega) ?_ | refine zE (by omega) (by omega) ?_ | refine zD (by omega) (by omega) ?_ | refine zY (by omega) ?_ | refine zN (by omega) ?_ | refine amin ?_ | refine amax ?_ | refine zU (by omega) ?_ | refine z8 (by omega) ?_ | refine zX (by omega) (by omega) ?_ | refine zR rfl ?_ | refine acellA ?_ | refine zB H b1 rfl ?_ | refine zC H b1 ?_ | refine zB H b2 rfl ?_ | refine zC H b2 ?_ | refine zB H b3 rfl ?_ | refine zC H b3 ?_ | refine zB H b4 rfl ?_ | refine zC H b4 ?_ | (apply zL H; (· repeat first | exact .h | apply AtK.t); (· rfl)) | (apply zA H; (· repeat first | exact .h | apply AtK.t)) | (apply zS H; (· repeat first | exact .h | apply AtK.t); (· rfl); (conv => whnf); clear H; intro τ H) | rw [List.length_map]); ((conv => whnf); (repeat ((first | with_reducible (first | refine zT rfl ?_ | refine zF rfl ?_ | refine zY rfl ?_) | refine zY (by decide) ?_ | refine zN (by decide) ?_ | with_reducible refine zQ ?_); (conv => whnf))))))
              have e2 : (if edge p.fs (x + m) = false ∨ ((x + m) = total p.fs ∧ ctg p.fi = true) then (1 : Int) else 0) = 0 := by rw [if_neg]; rintro (h | h); rw [hedg] at h; cases h; rw [hct] at h; cases h.2
              exact aret_pkt H.sub ⟨cutVal0 hba.1 e hFl2 hfi e2 (by omega), rfl⟩
            · rw [hct] at b2
              refine abits_eq (m := 1) (by rw [b2]; rfl) ?_
              ((conv => whnf); (repeat ((first | with_reducible (first | refine zT rfl ?_ | refine zF rfl ?_ | refine zY rfl ?_) | refine zY (by decide) ?_ | refine zN (by decide) ?_ | with_reducible refine zQ ?_); (conv => whnf))))
              (repeat ((first | refine zI (by omega) ?_ | refine zE (by omega) (by omega) ?_ | refine zD (by omega) (by omega) ?_ | refine zY (by omega) ?_ | refine zN (by omega) ?_ | refine amin ?_ | refine amax ?_ | refine zU (by omega) ?_ | refine z8 (by omega) ?_ | refine zX (by omega) (by omega) ?_ | refine zR rfl ?_ | refine acellA ?_ | refine zB H b1 rfl ?_ | refine zC H b1 ?_ | refine zB H b2 rfl ?_ | refine zC H b2 ?_ | refine zB H b3 rfl ?_ | refine zC H b3 ?_ | refine zB H b4 rfl ?_ | refine zC H b4 ?_ | (apply zL H; (· repeat first | exact .h | apply AtK.t); (· rfl)) | (apply zA H; (· repeat first | exact .h | apply AtK.t)) | (apply zS H; (· repeat first | exact .h | apply AtK.t); (· rfl); (conv => whnf); clear H; intro τ H) | rw [List.length_map]); ((conv => whnf); (repeat ((first | with_reducible (first | refine zT rfl ?_ | refine zF rfl ?_ | refine zY rfl ?_) | refine zY (by decide) ?_ | refine zN (by decide) ?_ | with_reducible refine zQ ?_); (conv => whnf))))))
              refine abits_eq hor ?_
              ((conv => whnf); (repeat ((first | with_reducible (first | refine zT rfl ?_ | refine zF rfl ?_ | refine zY rfl ?_) | refine zY (by decide) ?_ | refine zN (by decide) ?_ | with_reducible refine zQ ?_); (conv => whnf))))
              (repeat ((first | refine zI (by omega) ?_ | refine zE (by omega) (by omega) ?_ | refine zD (by omega) (by omega) ?_ | refine zY (by omega) ?_ | refine zN (by omega) ?_ | refine amin ?_ | refine amax ?_ | refine zU (by omega) ?_ | refine z8 (by omega) ?_ | refine zX (by omega) (by omega) ?_ | refine zR rfl ?_ | refine acellA ?_ | refine zB H b1 rfl ?_ | refine zC H b1 ?_ | refine zB H b2 rfl ?_ | refine zC H b2 ?_ | refine zB H b3 rfl ?_ | refine zC H b3 ?_ | refine zB H b4 rfl ?_ | refine zC H b4 ?_ | (apply zL H; (· repeat first | exact .h | apply AtK.t); (· rfl)) | (apply zA H; (· repeat first | exact .h | apply AtK.t)) | (apply zS H; (· repeat first | exact .h | apply AtK.t); (· rfl); (conv => whnf); clear H; intro τ H) | rw [List.length_map]); ((conv => whnf); (repeat ((first | with_reducible (first | refine zT rfl ?_ | refine zF rfl ?_ | refine zY rfl ?_) | refine zY (by decide) ?_ | refine zN (by decide) ?_ | with_reducible refine zQ ?_); (conv => whnf))))))
              have e2 : (if edge p.fs (x + m) = false ∨ ((x + m) = total p.fs ∧ ctg p.fi = true) then (1 : Int) else 0) = 1 := if_pos (.inr ⟨hxd, hct⟩)
              exact aret_pkt H.sub ⟨cutVal hba.1 e hFl2 hfi e2 (by omega), rfl⟩
          · (repeat ((first | refine zI (by omega) ?_ | refine zE (by omega) (by omega) ?_ | refine zD (by omega) (by omega) ?_ | refine zY (by omega) ?_ | refine zN (by omega) ?_ | refine amin ?_ | refine amax ?_ | refine zU (by omega) ?_ | refine z8 (by omega) ?_ | refine zX (by omega) (by omega) ?_ | refine zR rfl ?_ | refine acellA ?_ | refine zB H b1 rfl ?_ | refine zC H b1 ?_ | refine zB H b2 rfl ?_ | refine zC H b2 ?_ | refine zB H b3 rfl ?_ | refine zC H b3 ?_ | refine zB H b4 rfl ?_ | refine zC H b4 ?_ | (apply zL H; (· repeat first | exact .h | apply AtK.t); (· rfl)) | (apply zA H; (· repeat first | exact .h | apply AtK.t)) | (apply zS H; (· repeat first | exact .h | apply AtK.t); (· rfl); (conv => whnf); clear H; intro τ H) | rw [List.length_map]); ((conv => whnf); (repeat ((first | with_reducible (first | refine zT rfl ?_ | refine zF rfl ?_ | refine zY rfl ?_) | refine zY (by decide) ?_ | refine zN (by decide) ?_ | with_reducible refine zQ ?_); (conv => whnf))))))
            have e2 : (if edge p.fs (x + m) = false ∨ ((x + m) = total p.fs ∧ ctg p.fi = true) then (1 : Int) else 0) = 0 := by rw [if_neg]; rintro (h | h); rw [hedg] at h; cases h; exact hxd h.1
            exact aret_pkt H.sub ⟨cutVal0 hba.1 e hFl2 hfi e2 (by omega), rfl⟩
        · (repeat ((first | refine zI (by omega) ?_ | refine zE (by omega) (by omega) ?_ | refine zD (by omega) (by omega) ?_ | refine zY (by omega) ?_ | refine zN (by omega) ?_ | refine amin ?_ | refine amax ?_ | refine zU (by omega) ?_ | refine z8 (by omega) ?_ | refine zX (by omega) (by omega) ?_ | refine zR rfl ?_ | refine acellA ?_ | refine zB H b1 rfl ?_ | refine zC H b1 ?_ | refine zB H b2 rfl ?_ | refine zC H b2 ?_ | refine zB H b3 rfl ?_ | refine zC H b3 ?_ | refine zB H b4 rfl ?_ | refine zC H b4 ?_ | (apply zL H; (· repeat first | exact .h | apply AtK.t); (· rfl)) | (apply zA H; (· repeat first | exact .h | apply AtK.t)) | (apply zS H; (· repeat first | exact .h | apply AtK.t); (· rfl); (conv => whnf); clear H; intro τ H) | rw [List.length_map]); ((conv => whnf); (repeat ((first | with_reducible (first | refine zT rfl ?_ | refine zF rfl ?_ | refine zY rfl ?_) | refine zY (by decide) ?_ | refine zN (by decide) ?_ | with_reducible refine zQ ?_); (conv => whnf))))))
          have hedg : ¬ edge p.fs (x + m) = true := fun h => e3 (heg.1 h)
          have hcx : cutAt p a t g w = (x + m) := hcA (cutEnd_eq (t := t.toNat) (by omega) (by omega) hall2 (fun h => hnok (by omega)))
          by_cases hx0 : (x + m) = a.toNat
          · have hFn2 : F ++ [(tk1, (p.fs.flatten.take (x + m)).drop x)] = [] := hFN2.1 hx0
            have e : cutRes p a t g w = (pk0, 0, 16) := by unfold cutRes; rw [if_neg hnf, if_neg hnb, if_neg hng, hcx, if_pos hx0]
            have hFl0 : (F ++ [(tk1, (p.fs.flatten.take (x + m)).drop x)]).length = 0 := by rw [hFn2]; rfl
            (repeat ((first | refine zI (by omega) ?_ | refine zE (by omega) (by omega) ?_ | refine zD (by omega) (by omega) ?_ | refine zY (by omega) ?_ | refine zN (by omega) ?_ | refine amin ?_ | refine amax ?_ | refine zU (by omega) ?_ | refine z8 (by omega) ?_ | refine zX (by omega) (by omega) ?_ | refine zR rfl ?_ | refine acellA ?_ | refine zB H b1 rfl ?_ | refine zC H b1 ?_ | refine zB H b2 rfl ?_ | refine zC H b2 ?_ | refine zB H b3 rfl ?_ | refine zC H b3 ?_ | refine zB H b4 rfl ?_ | refine zC H b4 ?_ | (apply zL H; (· repeat first | exact .h | apply AtK.t); (· rfl)) | (apply zA H; (· repeat first | exact .h | apply AtK.t)) | (apply zS H; (· repeat first | exact .h | apply AtK.t); (· rfl); (conv => whnf); clear H; intro τ H) | rw [List.length_map]); ((conv => whnf); (repeat ((first | with_reducible (first | refine zT rfl ?_ | refine zF rfl ?_ | refine zY rfl ?_) | refine zY (by decide) ?_ | refine zN (by decide) ?_ | with_reducible refine zQ ?_); (conv => whnf))))))
            exact aret_pkt0 H.sub ⟨by rw [e]; rfl, rfl⟩
          have hFne : (F ++ [(tk1, (p.fs.flatten.take (x + m)).drop x)]).length ≠ 0 := fun h => hx0 (hFN2.2 (List.length_eq_zero_iff.1 h))
          have e : cutRes p a t g w = (cutPk p a.toNat ((x + m)), (((x + m) : Nat) : Int), 0) := by unfold cutRes; rw [if_neg hnf, if_neg hnb, if_neg hng, hcx, if_neg hx0]
          (repeat ((first | refine zI (by omega) ?_ | refine zE (by omega) (by omega) ?_ | refine zD (by omega) (by omega) ?_ | refine zY (by omega) ?_ | refine zN (by omega) ?_ | refine amin ?_ | refine amax ?_ | refine zU (by omega) ?_ | refine z8 (by omega) ?_ | refine zX (by omega) (by omega) ?_ | refine zR rfl ?_ | refine acellA ?_ | refine zB H b1 rfl ?_ | refine zC H b1 ?_ | refine zB H b2 rfl ?_ | refine zC H b2 ?_ | refine zB H b3 rfl ?_ | refine zC H b3 ?_ | refine zB H b4 rfl ?_ | refine zC H b4 ?_ | (apply zL H; (· repeat first | exact .h | apply AtK.t); (· rfl)) | (apply zA H; (· repeat first | exact .h | apply AtK.t)) | (apply zS H; (· repeat first | exact .h | apply AtK.t); (· rfl); (conv => whnf); clear H; intro τ H) | rw [List.length_map]); ((conv => whnf); (repeat ((first | with_reducible (first | refine zT rfl ?_ | refine zF rfl ?_ | refine zY rfl ?_) | refine zY (by decide) ?_ | refine zN (by decide) ?_ | with_reducible refine zQ ?_); (conv => whnf))))))
          refine aget (by omega) (get_ends hfl) ?_
          ((conv => whnf); (repeat ((first | with_reducible (first | refine zT rfl ?_ | refine zF rfl ?_ | refine zY rfl ?_) | refine zY (by decide) ?_ | refine zN (by decide) ?_ | with_reducible refine zQ ?_); (conv => whnf))))
          refine acell rfl ?_
          ((conv => whnf); (repeat ((first | with_reducible (first | refine zT rfl ?_ | refine zF rfl ?_ | refine zY rfl ?_) | refine zY (by decide) ?_ | refine zN (by decide) ?_ | with_reducible refine zQ ?_); (conv => whnf))))
          have hfi01 : fi = 0 ∨ fi = 2 := by rw [hfi]; split <;> simp
          have hor : bitsOp .or .i64 fi 1 = fi + 1 := by rcases hfi01 with h | h <;> rw [h] <;> decide
          have hq : (x + m) ≠ total (p.fs.take (f + 1)) := fun h => hedg (heg.2 h)
          refine abr_yes (by omega) ?_
          ((conv => whnf); (repeat ((first | with_reducible (first | refine zT rfl ?_ | refine zF rfl ?_ | refine zY rfl ?_) | refine zY (by decide) ?_ | refine zN (by decide) ?_ | with_reducible refine zQ ?_); (conv => whnf))))
          (repeat ((first | refine zI (by omega) ?_ | refine zE (by omega) (by omega) ?_ | refine zD (by omega) (by omega) ?_ | refine zY (by omega) ?_ | refine zN (by omega) ?_ | refine amin ?_ | refine amax ?_ | refine zU (by omega) ?_ | refine z8 (by omega) ?_ | refine zX (by omega) (by omega) ?_ | refine zR rfl ?_ | refine acellA ?_ | refine zB H b1 rfl ?_ | refine zC H b1 ?_ | refine zB H b2 rfl ?_ | refine zC H b2 ?_ | refine zB H b3 rfl ?_ | refine zC H b3 ?_ | refine zB H b4 rfl ?_ | refine zC H b4 ?_ | (apply zL H; (· repeat first | exact .h | apply AtK.t); (· rfl)) | (apply zA H; (· repeat first | exact .h | apply AtK.t)) | (apply zS H; (· repeat first | exact .h | apply AtK.t); (· rfl); (conv => whnf); clear H; intro τ H) | rw [List.length_map]); ((conv => whnf); (repeat ((first | with_reducible (first | refine zT rfl ?_ | refine zF rfl ?_ | refine zY rfl ?_) | refine zY (by decide) ?_ | refine zN (by decide) ?_ | with_reducible refine zQ ?_); (conv => whnf))))))
          refine abits_eq hor ?_
          ((conv => whnf); (repeat ((first | with_reducible (first | refine zT rfl ?_ | refine zF rfl ?_ | refine zY rfl ?_) | refine zY (by decide) ?_ | refine zN (by decide) ?_ | with_reducible refine zQ ?_); (conv => whnf))))
          (repeat ((first | refine zI (by omega) ?_ | refine zE (by omega) (by omega) ?_ | refine zD (by omega) (by omega) ?_ | refine zY (by omega) ?_ | refine zN (by omega) ?_ | refine amin ?_ | refine amax ?_ | refine zU (by omega) ?_ | refine z8 (by omega) ?_ | refine zX (by omega) (by omega) ?_ | refine zR rfl ?_ | refine acellA ?_ | refine zB H b1 rfl ?_ | refine zC H b1 ?_ | refine zB H b2 rfl ?_ | refine zC H b2 ?_ | refine zB H b3 rfl ?_ | refine zC H b3 ?_ | refine zB H b4 rfl ?_ | refine zC H b4 ?_ | (apply zL H; (· repeat first | exact .h | apply AtK.t); (· rfl)) | (apply zA H; (· repeat first | exact .h | apply AtK.t)) | (apply zS H; (· repeat first | exact .h | apply AtK.t); (· rfl); (conv => whnf); clear H; intro τ H) | rw [List.length_map]); ((conv => whnf); (repeat ((first | with_reducible (first | refine zT rfl ?_ | refine zF rfl ?_ | refine zY rfl ?_) | refine zY (by decide) ?_ | refine zN (by decide) ?_ | with_reducible refine zQ ?_); (conv => whnf))))))
          have e2 : (if edge p.fs (x + m) = false ∨ ((x + m) = total p.fs ∧ ctg p.fi = true) then (1 : Int) else 0) = 1 := if_pos (.inl (by simpa using hedg))
          exact aret_pkt H.sub ⟨cutVal hba.1 e hFl2 hfi e2 (by omega), rfl⟩
      · have hle : left < 1 := by omega
        have hall2 := hall
        have hFN2 := hFn
        have hFl2 := hF
        have hnok : (x : Int) < t → ¬ okB p.fs room (lenW w) a.toNat x := fun h => by
          rw [hok x (Nat.le_refl _) hx2]; omega
        (repeat ((first | refine zI (by omega) ?_ | refine zE (by omega) (by omega) ?_ | refine zD (by omega) (by omega) ?_ | refine zY (by omega) ?_ | refine zN (by omega) ?_ | refine amin ?_ | refine amax ?_ | refine zU (by omega) ?_ | refine z8 (by omega) ?_ | refine zX (by omega) (by omega) ?_ | refine zR rfl ?_ | refine acellA ?_ | refine zB H b1 rfl ?_ | refine zC H b1 ?_ | refine zB H b2 rfl ?_ | refine zC H b2 ?_ | refine zB H b3 rfl ?_ | refine zC H b3 ?_ | refine zB H b4 rfl ?_ | refine zC H b4 ?_ | (apply zL H; (· repeat first | exact .h | apply AtK.t); (· rfl)) | (apply zA H; (· repeat first | exact .h | apply AtK.t)) | (apply zS H; (· repeat first | exact .h | apply AtK.t); (· rfl); (conv => whnf); clear H; intro τ H) | rw [List.length_map]); ((conv => whnf); (repeat ((first | with_reducible (first | refine zT rfl ?_ | refine zF rfl ?_ | refine zY rfl ?_) | refine zY (by decide) ?_ | refine zN (by decide) ?_ | with_reducible refine zQ ?_); (conv => whnf))))))
        have hcx : cutAt p a t g w = x := hcA (cutEnd_eq (t := t.toNat) (by omega) (by omega) hall2 (fun h => hnok (by omega)))
        by_cases hx0 : x = a.toNat
        · have hFn2 : F = [] := hFN2.1 hx0
          have e : cutRes p a t g w = (pk0, 0, 16) := by unfold cutRes; rw [if_neg hnf, if_neg hnb, if_neg hng, hcx, if_pos hx0]
          have hFl0 : (F).length = 0 := by rw [hFn2]; rfl
          (repeat ((first | refine zI (by omega) ?_ | refine zE (by omega) (by omega) ?_ | refine zD (by omega) (by omega) ?_ | refine zY (by omega) ?_ | refine zN (by omega) ?_ | refine amin ?_ | refine amax ?_ | refine zU (by omega) ?_ | refine z8 (by omega) ?_ | refine zX (by omega) (by omega) ?_ | refine zR rfl ?_ | refine acellA ?_ | refine zB H b1 rfl ?_ | refine zC H b1 ?_ | refine zB H b2 rfl ?_ | refine zC H b2 ?_ | refine zB H b3 rfl ?_ | refine zC H b3 ?_ | refine zB H b4 rfl ?_ | refine zC H b4 ?_ | (apply zL H; (· repeat first | exact .h | apply AtK.t); (· rfl)) | (apply zA H; (· repeat first | exact .h | apply AtK.t)) | (apply zS H; (· repeat first | exact .h | apply AtK.t); (· rfl); (conv => whnf); clear H; intro τ H) | rw [List.length_map]); ((conv => whnf); (repeat ((first | with_reducible (first | refine zT rfl ?_ | refine zF rfl ?_ | refine zY rfl ?_) | refine zY (by decide) ?_ | refine zN (by decide) ?_ | with_reducible refine zQ ?_); (conv => whnf))))))
          exact aret_pkt0 H.sub ⟨by rw [e]; rfl, rfl⟩
        have hFne : (F).length ≠ 0 := fun h => hx0 (hFN2.2 (List.length_eq_zero_iff.1 h))
        have e : cutRes p a t g w = (cutPk p a.toNat (x), ((x : Nat) : Int), 0) := by unfold cutRes; rw [if_neg hnf, if_neg hnb, if_neg hng, hcx, if_neg hx0]
        (repeat ((first | refine zI (by omega) ?_ | refine zE (by omega) (by omega) ?_ | refine zD (by omega) (by omega) ?_ | refine zY (by omega) ?_ | refine zN (by omega) ?_ | refine amin ?_ | refine amax ?_ | refine zU (by omega) ?_ | refine z8 (by omega) ?_ | refine zX (by omega) (by omega) ?_ | refine zR rfl ?_ | refine acellA ?_ | refine zB H b1 rfl ?_ | refine zC H b1 ?_ | refine zB H b2 rfl ?_ | refine zC H b2 ?_ | refine zB H b3 rfl ?_ | refine zC H b3 ?_ | refine zB H b4 rfl ?_ | refine zC H b4 ?_ | (apply zL H; (· repeat first | exact .h | apply AtK.t); (· rfl)) | (apply zA H; (· repeat first | exact .h | apply AtK.t)) | (apply zS H; (· repeat first | exact .h | apply AtK.t); (· rfl); (conv => whnf); clear H; intro τ H) | rw [List.length_map]); ((conv => whnf); (repeat ((first | with_reducible (first | refine zT rfl ?_ | refine zF rfl ?_ | refine zY rfl ?_) | refine zY (by decide) ?_ | refine zN (by decide) ?_ | with_reducible refine zQ ?_); (conv => whnf))))))
        obtain ⟨hf1', hxf⟩ : 1 ≤ f ∧ x = total (p.fs.take f) := hst.resolve_left hx0
        have hfl : f - 1 < p.fs.length := by omega
        have heg : edge p.fs x = true ↔ x = total (p.fs.take (f - 1 + 1)) := by
          rw [show f - 1 + 1 = f by omega]
          exact ⟨fun _ => hxf, fun h => by rw [h]; exact edge_take (by omega)⟩
        have hedg : edge p.fs x = true := by rw [hxf]; exact edge_take (by omega)
        rw [show (f : Int) - 1 = ((f - 1 : Nat) : Int) by omega]
        refine aget (by omega) (get_ends hfl) ?_
        ((conv => whnf); (repeat ((first | with_reducible (first | refine zT rfl ?_ | refine zF rfl ?_ | refine zY rfl ?_) | refine zY (by decide) ?_ | refine zN (by decide) ?_ | with_reducible refine zQ ?_); (conv => whnf))))
        refine acell rfl ?_
        ((conv => whnf); (repeat ((first | with_reducible (first | refine zT rfl ?_ | refine zF rfl ?_ | refine zY rfl ?_) | refine zY (by decide) ?_ | refine zN (by decide) ?_ | with_reducible refine zQ ?_); (conv => whnf))))
        have hfi01 : fi = 0 ∨ fi = 2 := by rw [hfi]; split <;> simp
        have hor : bitsOp .or .i64 fi 1 = fi + 1 := by rcases hfi01 with h | h <;> rw [h] <;> decide
        have hq : x = total (p.fs.take (f - 1 + 1)) := heg.1 hedg
        refine abr_no (by omega) ?_
        ((conv => whnf); (repeat ((first | with_reducible (first | refine zT rfl ?_ | refine zF rfl ?_ | refine zY rfl ?_) | refine zY (by decide) ?_ | refine zN (by decide) ?_ | with_reducible refine zQ ?_); (conv => whnf))))
        by_cases hxd : x = total p.fs
        · (repeat ((first | refine zI (by omega) ?_ | refine zE (by omega) (by omega) ?_ | refine zD (by omega) (by omega) ?_ | refine zY (by omega) ?_ | refine zN (by omega) ?_ | refine amin ?_ | refine amax ?_ | refine zU (by omega) ?_ | refine z8 (by omega) ?_ | refine zX (by omega) (by omega) ?_ | refine zR rfl ?_ | refine acellA ?_ | refine zB H b1 rfl ?_ | refine zC H b1 ?_ | refine zB H b2 rfl ?_ | refine zC H b2 ?_ | refine zB H b3 rfl ?_ | refine zC H b3 ?_ | refine zB H b4 rfl ?_ | refine zC H b4 ?_ | (apply zL H; (· repeat first | exact .h | apply AtK.t); (· rfl)) | (apply zA H; (· repeat first | exact .h | apply AtK.t)) | (apply zS H; (· repeat first | exact .h | apply AtK.t); (· rfl); (conv => whnf); clear H; intro τ H) | rw [List.length_map]); ((conv => whnf); (repeat ((first | with_reducible (first | refine zT rfl ?_ | refine zF rfl ?_ | refine zY rfl ?_) | refine zY (by decide) ?_ | refine zN (by decide) ?_ | with_reducible refine zQ ?_); (conv => whnf))))))
          rcases (show ctg p.fi = false ∨ ctg p.fi = true by cases ctg p.fi <;> simp) with hct | hct
          · rw [hct] at b2
            refine abits_eq (m := 0) (by rw [b2]; rfl) ?_
            ((conv => whnf); (repeat ((first | with_reducible (first | refine zT rfl ?_ | refine zF rfl ?_ | refine zY rfl ?_) | refine zY (by decide) ?_ | refine zN (by decide) ?_ | with_reducible refine zQ ?_); (conv => whnf))))
            (repeat ((first | refine zI (by omega) ?_ | refine zE (by omega) (by omega) ?_ | refine zD (by omega) (by omega) ?_ | refine zY (by omega) ?_ | refine zN (by omega) ?_ | refine amin ?_ | refine amax ?_ | refine zU (by omega) ?_ | refine z8 (by omega) ?_ | refine zX (by omega) (by omega) ?_ | refine zR rfl ?_ | refine acellA ?_ | refine zB H b1 rfl ?_ | refine zC H b1 ?_ | refine zB H b2 rfl ?_ | refine zC H b2 ?_ | refine zB H b3 rfl ?_ | refine zC H b3 ?_ | refine zB H b4 rfl ?_ | refine zC H b4 ?_ | (apply zL H; (· repeat first | exact .h | apply AtK.t); (· rfl)) | (apply zA H; (· repeat first | exact .h | apply AtK.t)) | (apply zS H; (· repeat first | exact .h | apply AtK.t); (· rfl); (conv => whnf); clear H; intro τ H) | rw [List.length_map]); ((conv => whnf); (repeat ((first | with_reducible (first | refine zT rfl ?_ | refine zF rfl ?_ | refine zY rfl ?_) | refine zY (by decide) ?_ | refine zN (by decide) ?_ | with_reducible refine zQ ?_); (conv => whnf))))))
            have e2 : (if edge p.fs x = false ∨ (x = total p.fs ∧ ctg p.fi = true) then (1 : Int) else 0) = 0 := by rw [if_neg]; rintro (h | h); rw [hedg] at h; cases h; rw [hct] at h; cases h.2
            exact aret_pkt H.sub ⟨cutVal0 hba.1 e hFl2 hfi e2 (by omega), rfl⟩
          · rw [hct] at b2
            refine abits_eq (m := 1) (by rw [b2]; rfl) ?_
            ((conv => whnf); (repeat ((first | with_reducible (first | refine zT rfl ?_ | refine zF rfl ?_ | refine zY rfl ?_) | refine zY (by decide) ?_ | refine zN (by decide) ?_ | with_reducible refine zQ ?_); (conv => whnf))))
            (repeat ((first | refine zI (by omega) ?_ | refine zE (by omega) (by omega) ?_ | refine zD (by omega) (by omega) ?_ | refine zY (by omega) ?_ | refine zN (by omega) ?_ | refine amin ?_ | refine amax ?_ | refine zU (by omega) ?_ | refine z8 (by omega) ?_ | refine zX (by omega) (by omega) ?_ | refine zR rfl ?_ | refine acellA ?_ | refine zB H b1 rfl ?_ | refine zC H b1 ?_ | refine zB H b2 rfl ?_ | refine zC H b2 ?_ | refine zB H b3 rfl ?_ | refine zC H b3 ?_ | refine zB H b4 rfl ?_ | refine zC H b4 ?_ | (apply zL H; (· repeat first | exact .h | apply AtK.t); (· rfl)) | (apply zA H; (· repeat first | exact .h | apply AtK.t)) | (apply zS H; (· repeat first | exact .h | apply AtK.t); (· rfl); (conv => whnf); clear H; intro τ H) | rw [List.length_map]); ((conv => whnf); (repeat ((first | with_reducible (first | refine zT rfl ?_ | refine zF rfl ?_ | refine zY rfl ?_) | refine zY (by decide) ?_ | refine zN (by decide) ?_ | with_reducible refine zQ ?_); (conv => whnf))))))
            refine abits_eq hor ?_
            ((conv => whnf); (repeat ((first | with_reducible (first | refine zT rfl ?_ | refine zF rfl ?_ | refine zY rfl ?_) | refine zY (by decide) ?_ | refine zN (by decide) ?_ | with_reducible refine zQ ?_); (conv => whnf))))
            (repeat ((first | refine zI (by omega) ?_ | refine zE (by omega) (by omega) ?_ | refine zD (by omega) (by omega) ?_ | refine zY (by omega) ?_ | refine zN (by omega) ?_ | refine amin ?_ | refine amax ?_ | refine zU (by omega) ?_ | refine z8 (by omega) ?_ | refine zX (by omega) (by omega) ?_ | refine zR rfl ?_ | refine acellA ?_ | refine zB H b1 rfl ?_ | refine zC H b1 ?_ | refine zB H b2 rfl ?_ | refine zC H b2 ?_ | refine zB H b3 rfl ?_ | refine zC H b3 ?_ | refine zB H b4 rfl ?_ | refine zC H b4 ?_ | (apply zL H; (· repeat first | exact .h | apply AtK.t); (· rfl)) | (apply zA H; (· repeat first | exact .h | apply AtK.t)) | (apply zS H; (· repeat first | exact .h | apply AtK.t); (· rfl); (conv => whnf); clear H; intro τ H) | rw [List.length_map]); ((conv => whnf); (repeat ((first | with_reducible (first | refine zT rfl ?_ | refine zF rfl ?_ | refine zY rfl ?_) | refine zY (by decide) ?_ | refine zN (by decide) ?_ | with_reducible refine zQ ?_); (conv => whnf))))))
            have e2 : (if edge p.fs x = false ∨ (x = total p.fs ∧ ctg p.fi = true) then (1 : Int) else 0) = 1 := if_pos (.inr ⟨hxd, hct⟩)
            exact aret_pkt H.sub ⟨cutVal hba.1 e hFl2 hfi e2 (by omega), rfl⟩
        · (repeat ((first | refine zI (by omega) ?_ | refine zE (by omega) (by omega) ?_ | refine zD (by omega) (by omega) ?_ | refine zY (by omega) ?_ | refine zN (by omega) ?_ | refine amin ?_ | refine amax ?_ | refine zU (by omega) ?_ | refine z8 (by omega) ?_ | refine zX (by omega) (by omega) ?_ | refine zR rfl ?_ | refine acellA ?_ | refine zB H b1 rfl ?_ | refine zC H b1 ?_ | refine zB H b2 rfl ?_ | refine zC H b2 ?_ | refine zB H b3 rfl ?_ | refine zC H b3 ?_ | refine zB H b4 rfl ?_ | refine zC H b4 ?_ | (apply zL H; (· repeat first | exact .h | apply AtK.t); (· rfl)) | (apply zA H; (· repeat first | exact .h | apply AtK.t)) | (apply zS H; (· repeat first | exact .h | apply AtK.t); (· rfl); (conv => whnf); clear H; intro τ H) | rw [List.length_map]); ((conv => whnf); (repeat ((first | with_reducible (first | refine zT rfl ?_ | refine zF rfl ?_ | refine zY rfl ?_) | refine zY (by decide) ?_ | refine zN (by decide) ?_ | with_reducible refine zQ ?_); (conv => whnf))))))
          have e2 : (if edge p.fs x = false ∨ (x = total p.fs ∧ ctg p.fi = true) then (1 : Int) else 0) = 0 := by rw [if_neg]; rintro (h | h); rw [hedg] at h; cases h; exact hxd h.1
          exact aret_pkt H.sub ⟨cutVal0 hba.1 e hFl2 hfi e2 (by omega), rfl⟩
end Go.Proofs.Ytgipkpghabelkaa
/-
  Fields that are too much for a statement.
-/
namespace Go.Proofs.Ytgipkpghabelkaa
set_option linter.unusedVariables false
set_option linter.unusedSimpArgs false
open Go Go.Am

def smallG (l : List (List UInt8)) : Prop := l.length ≤ 40 ∧ ∀ p ∈ l, p.length ≤ 4200
theorem gGreat (l : List (List UInt8)) (t : Tok) (σ : AHeap) (hl : l.length ≤ 9223372036854775807) : ACalls Try.prog i_bowlinelaw09_Great [lists t l] σ fun v σ' => (∃ g, v = boolv g ∧ (g = false → smallG l)) ∧ σ' = σ := by
  refine k_bowlinelaw09_Great rfl ?_
  ((conv => whnf); (repeat ((first | with_reducible (first | refine zT rfl ?_ | refine zF rfl ?_ | refine zY rfl ?_) | refine zY (by decide) ?_ | refine zN (by decide) ?_ | with_reducible refine zQ ?_); (conv => whnf))))
  refine aloop (α := Nat × Nat) (fun x => [(s3, i64v x.2), (s4, i64v x.1)]) (fun _ => σ) (fun x => x.1 ≤ l.length ∧ (0 < x.1 → l.length ≤ 40) ∧ x.2 ≤ 4200 * x.1 ∧ ∀ p ∈ l.take x.1, p.length ≤ 4200) (fun x => l.length - x.1) (0, 0) ⟨Nat.zero_le _, fun h => by omega, Nat.le_refl _, by simp⟩ (Sub.refl _) ?_ ?_
  · ((conv => whnf); (repeat ((first | with_reducible (first | refine zT rfl ?_ | refine zF rfl ?_ | refine zY rfl ?_) | refine zY (by decide) ?_ | refine zN (by decide) ?_ | with_reducible refine zQ ?_); (conv => whnf))))
    (repeat' first | with_reducible exact EnvLe.refl _ | (refine EnvLe.node ?_ (by first | exact Or.inl rfl | exact Or.inr (Or.inl rfl) | exact Or.inr (Or.inr ⟨nofun, VLe.slice _ _ _⟩)) ?_))
  rintro ⟨i, n⟩ ⟨hi, h40, hn, ha⟩
  dsimp only at hi h40 hn ha ⊢
  by_cases h : i < l.length
  · by_cases h1 : l.length > 40
    · ((conv => whnf); (repeat ((first | with_reducible (first | refine zT rfl ?_ | refine zF rfl ?_ | refine zY rfl ?_) | refine zY (by decide) ?_ | refine zN (by decide) ?_ | with_reducible refine zQ ?_); (conv => whnf))))
      (repeat ((first | refine aload (by (repeat (first | with_reducible exact upd_same _ _ _ | assumption | rw [upd_ne _ _ (by first | assumption | (apply Ne.symm; assumption))]))) rfl ?_ | refine afit_i64 (by omega) ?_ | refine arem_nonneg (by omega) (by omega) ?_ | refine adiv_i64 (by omega) (by omega) ?_ | refine abr_yes (by omega) ?_ | refine abr_no (by omega) ?_ | refine amin ?_ | refine amax ?_ | refine afit_u64 (by omega) ?_ | refine afit_u8 (by omega) ?_ | rw [List.length_map]); ((conv => whnf); (repeat ((first | with_reducible (first | refine zT rfl ?_ | refine zF rfl ?_ | refine zY rfl ?_) | refine zY (by decide) ?_ | refine zN (by decide) ?_ | with_reducible refine zQ ?_); (conv => whnf))))))
      exact aret_same ⟨⟨true, rfl, nofun⟩, rfl⟩
    · ((conv => whnf); (repeat ((first | with_reducible (first | refine zT rfl ?_ | refine zF rfl ?_ | refine zY rfl ?_) | refine zY (by decide) ?_ | refine zN (by decide) ?_ | with_reducible refine zQ ?_); (conv => whnf))))
      (repeat ((first | refine aload (by (repeat (first | with_reducible exact upd_same _ _ _ | assumption | rw [upd_ne _ _ (by first | assumption | (apply Ne.symm; assumption))]))) rfl ?_ | refine afit_i64 (by omega) ?_ | refine arem_nonneg (by omega) (by omega) ?_ | refine adiv_i64 (by omega) (by omega) ?_ | refine abr_yes (by omega) ?_ | refine abr_no (by omega) ?_ | refine amin ?_ | refine amax ?_ | refine afit_u64 (by omega) ?_ | refine afit_u8 (by omega) ?_ | rw [List.length_map]); ((conv => whnf); (repeat ((first | with_reducible (first | refine zT rfl ?_ | refine zF rfl ?_ | refine zY rfl ?_) | refine zY (by decide) ?_ | refine zN (by decide) ?_ | with_reducible refine zQ ?_); (conv => whnf))))))
      refine aget (by omega) (get_lists h) ?_
      ((conv => whnf); (repeat ((first | with_reducible (first | refine zT rfl ?_ | refine zF rfl ?_ | refine zY rfl ?_) | refine zY (by decide) ?_ | refine zN (by decide) ?_ | with_reducible refine zQ ?_); (conv => whnf))))
      refine acell rfl ?_
      ((conv => whnf); (repeat ((first | with_reducible (first | refine zT rfl ?_ | refine zF rfl ?_ | refine zY rfl ?_) | refine zY (by decide) ?_ | refine zN (by decide) ?_ | with_reducible refine zQ ?_); (conv => whnf))))
      rw [List.length_map]
      by_cases h2 : l[i].length > 4200
      · refine abr_yes (by omega) ?_
        ((conv => whnf); (repeat ((first | with_reducible (first | refine zT rfl ?_ | refine zF rfl ?_ | refine zY rfl ?_) | refine zY (by decide) ?_ | refine zN (by decide) ?_ | with_reducible refine zQ ?_); (conv => whnf))))
        exact aret_same ⟨⟨true, rfl, nofun⟩, rfl⟩
      · refine abr_no (by omega) ?_
        ((conv => whnf); (repeat ((first | with_reducible (first | refine zT rfl ?_ | refine zF rfl ?_ | refine zY rfl ?_) | refine zY (by decide) ?_ | refine zN (by decide) ?_ | with_reducible refine zQ ?_); (conv => whnf))))
        refine aget (by omega) (get_lists h) ?_
        ((conv => whnf); (repeat ((first | with_reducible (first | refine zT rfl ?_ | refine zF rfl ?_ | refine zY rfl ?_) | refine zY (by decide) ?_ | refine zN (by decide) ?_ | with_reducible refine zQ ?_); (conv => whnf))))
        refine acell rfl ?_
        ((conv => whnf); (repeat ((first | with_reducible (first | refine zT rfl ?_ | refine zF rfl ?_ | refine zY rfl ?_) | refine zY (by decide) ?_ | refine zN (by decide) ?_ | with_reducible refine zQ ?_); (conv => whnf))))
        (repeat ((first | refine aload (by (repeat (first | with_reducible exact upd_same _ _ _ | assumption | rw [upd_ne _ _ (by first | assumption | (apply Ne.symm; assumption))]))) rfl ?_ | refine afit_i64 (by omega) ?_ | refine arem_nonneg (by omega) (by omega) ?_ | refine adiv_i64 (by omega) (by omega) ?_ | refine abr_yes (by omega) ?_ | refine abr_no (by omega) ?_ | refine amin ?_ | refine amax ?_ | refine afit_u64 (by omega) ?_ | refine afit_u8 (by omega) ?_ | rw [List.length_map]); ((conv => whnf); (repeat ((first | with_reducible (first | refine zT rfl ?_ | refine zF rfl ?_ | refine zY rfl ?_) | refine zY (by decide) ?_ | refine zN (by decide) ?_ | with_reducible refine zQ ?_); (conv => whnf))))))
        refine ⟨(i + 1, n + l[i].length), ⟨h, fun _ => by omega, by dsimp only; omega, ?_⟩, by dsimp only; omega, Sub.refl _, ?_⟩
        · dsimp only
          rw [List.take_add_one, List.getElem?_eq_getElem h]
          intro p hp
          rcases List.mem_append.1 hp with h | h
          · exact ha p h
          · simp at h; subst h; omega
        · rw [show (n : Int) + ((l[i].length : Nat) : Int) = ((n + l[i].length : Nat) : Int) by omega]
          ((conv => whnf); (repeat ((first | with_reducible (first | refine zT rfl ?_ | refine zF rfl ?_ | refine zY rfl ?_) | refine zY (by decide) ?_ | refine zN (by decide) ?_ | with_reducible refine zQ ?_); (conv => whnf))))
          (repeat' first | with_reducible exact EnvLe.refl _ | (refine EnvLe.node ?_ (by first | exact Or.inl rfl | exact Or.inr (Or.inl rfl) | exact Or.inr (Or.inr ⟨nofun, VLe.slice _ _ _⟩)) ?_))
  · rw [List.take_of_length_le (by omega)] at ha
    ((conv => whnf); (repeat ((first | with_reducible (first | refine zT rfl ?_ | refine zF rfl ?_ | refine zY rfl ?_) | refine zY (by decide) ?_ | refine zN (by decide) ?_ | with_reducible refine zQ ?_); (conv => whnf))))
    (repeat ((first | refine aload (by (repeat (first | with_reducible exact upd_same _ _ _ | assumption | rw [upd_ne _ _ (by first | assumption | (apply Ne.symm; assumption))]))) rfl ?_ | refine afit_i64 (by omega) ?_ | refine arem_nonneg (by omega) (by omega) ?_ | refine adiv_i64 (by omega) (by omega) ?_ | refine abr_yes (by omega) ?_ | refine abr_no (by omega) ?_ | refine amin ?_ | refine amax ?_ | refine afit_u64 (by omega) ?_ | refine afit_u8 (by omega) ?_ | rw [List.length_map]); ((conv => whnf); (repeat ((first | with_reducible (first | refine zT rfl ?_ | refine zF rfl ?_ | refine zY rfl ?_) | refine zY (by decide) ?_ | refine zN (by decide) ?_ | with_reducible refine zQ ?_); (conv => whnf))))))
    refine aret_same ⟨⟨_, rfl, fun _ => ⟨?_, ha⟩⟩, rfl⟩
    by_cases h0 : l.length = 0
    · omega
    · exact h40 (by omega)
end Go.Proofs.Ytgipkpghabelkaa
/-
  The statements of packets that are cut anew: what is told.
-/
namespace Go.Proofs.Ytgipkpghabelkaa
set_option linter.unusedVariables false
set_option linter.unusedSimpArgs false
open Go Go.Am

def px20 : Pk := ⟨false, 0, 3, false, false, 0, [[97, 98], [99, 100]]⟩
theorem c1_20 : cutRes px20 1 4 9 10 = (⟨false, 2, 3, true, true, 1, [[98], [99, 100]]⟩, 4, 0) := by decide +kernel
theorem c2_20 : cutRes px20 0 4 8 10 = (⟨false, 0, 3, false, false, 0, [[97, 98], [99, 100]]⟩, 4, 0) := by decide +kernel
theorem c3_20 : cutRes px20 1 4 4 10 = (pk0, 0, 16) := by decide +kernel
theorem c4_20 : cutRes px20 4 4 9 10 = (pk0, 0, 1) := by decide +kernel
theorem acall_weakA {P : Program} {f : FuncId} {args args' : List AVal} {σ : AHeap} {Q : AVal → AHeap → Prop} (h : ∀ κ vs, RepL κ args vs → RepL κ args' vs) (k : ACalls P f args' σ Q) : ACalls P f args σ Q := by
  rw [ACalls_def] at k ⊢
  exact fun κ w cargs hI hr => k κ w cargs hI (h κ cargs hr)
theorem pkt_weak {a b c d e f : AVal} {s : Nat} {l : List AVal} {t : Tok} {rest : List AVal} : ∀ κ vs, RepL κ (.agg [a, b, c, d, e, f, .slice s l t] :: rest) vs → RepL κ (.agg [a, b, c, d, e, f, .slice s l .none] :: rest) vs :=
  VLe.cons (VLe.aggA (VLe.cons (VLe.refl _) (VLe.cons (VLe.refl _) (VLe.cons (VLe.refl _) (VLe.cons (VLe.refl _) (VLe.cons (VLe.refl _) (VLe.cons (VLe.refl _) (VLe.cons (VLe.slice _ _ _) VLe.nil)))))))) fun _ _ h => h
set_option maxRecDepth 20000 in
set_option maxHeartbeats 2000000 in
theorem alive20 (σ : AHeap) : ACalls Try.prog i_bowlinelaw20_alive [] σ fun v σ' => v = boolv true ∧ σ' = σ := by
  refine k_bowlinelaw20_alive rfl ?_
  have H := Hp.nil σ
  ((conv => whnf); (repeat ((first | with_reducible (first | refine zT rfl ?_ | refine zF rfl ?_ | refine zY rfl ?_) | refine zY (by decide) ?_ | refine zN (by decide) ?_ | with_reducible refine zQ ?_); (conv => whnf))))
  refine arowT fun t_ ht_ => ?_
  ((conv => whnf); (repeat ((first | with_reducible (first | refine zT rfl ?_ | refine zF rfl ?_ | refine zY rfl ?_) | refine zY (by decide) ?_ | refine zN (by decide) ?_ | with_reducible refine zQ ?_); (conv => whnf))))
  refine amark (by simp) (upd_same _ _ _) ?_
  ((conv => whnf); (repeat ((first | with_reducible (first | refine zT rfl ?_ | refine zF rfl ?_ | refine zY rfl ?_) | refine zY (by decide) ?_ | refine zN (by decide) ?_ | with_reducible refine zQ ?_); (conv => whnf))))
  rw [del_upd _ _ _ ht_]
  clear ht_
  ((conv => whnf); (repeat ((first | with_reducible (first | refine zT rfl ?_ | refine zF rfl ?_ | refine zY rfl ?_) | refine zY (by decide) ?_ | refine zN (by decide) ?_ | with_reducible refine zQ ?_); (conv => whnf))))
  refine arowT fun t_ ht_ => ?_
  ((conv => whnf); (repeat ((first | with_reducible (first | refine zT rfl ?_ | refine zF rfl ?_ | refine zY rfl ?_) | refine zY (by decide) ?_ | refine zN (by decide) ?_ | with_reducible refine zQ ?_); (conv => whnf))))
  refine amark (by simp) (upd_same _ _ _) ?_
  ((conv => whnf); (repeat ((first | with_reducible (first | refine zT rfl ?_ | refine zF rfl ?_ | refine zY rfl ?_) | refine zY (by decide) ?_ | refine zN (by decide) ?_ | with_reducible refine zQ ?_); (conv => whnf))))
  rw [del_upd _ _ _ ht_]
  clear ht_
  ((conv => whnf); (repeat ((first | with_reducible (first | refine zT rfl ?_ | refine zF rfl ?_ | refine zY rfl ?_) | refine zY (by decide) ?_ | refine zN (by decide) ?_ | with_reducible refine zQ ?_); (conv => whnf))))
  refine hnew H rfl ?_
  clear H
  intro i1 τ H
  ((conv => whnf); (repeat ((first | with_reducible (first | refine zT rfl ?_ | refine zF rfl ?_ | refine zY rfl ?_) | refine zY (by decide) ?_ | refine zN (by decide) ?_ | with_reducible refine zQ ?_); (conv => whnf))))
  (repeat ((first | refine zI (by omega) ?_ | refine zE (by omega) (by omega) ?_ | refine zD (by omega) (by omega) ?_ | refine zY (by omega) ?_ | refine zN (by omega) ?_ | refine amin ?_ | refine amax ?_ | refine zU (by omega) ?_ | refine z8 (by omega) ?_ | refine zX (by omega) (by omega) ?_ | refine zR rfl ?_ | refine acellA ?_ | refine zB H b1 rfl ?_ | refine zC H b1 ?_ | refine zB H b2 rfl ?_ | refine zC H b2 ?_ | refine zB H b3 rfl ?_ | refine zC H b3 ?_ | refine zB H b4 rfl ?_ | refine zC H b4 ?_ | (apply zL H; (· repeat first | exact .h | apply AtK.t); (· rfl)) | (apply zA H; (· repeat first | exact .h | apply AtK.t)) | (apply zS H; (· repeat first | exact .h | apply AtK.t); (· rfl); (conv => whnf); clear H; intro τ H) | rw [List.length_map]); ((conv => whnf); (repeat ((first | with_reducible (first | refine zT rfl ?_ | refine zF rfl ?_ | refine zY rfl ?_) | refine zY (by decide) ?_ | refine zN (by decide) ?_ | with_reducible refine zQ ?_); (conv => whnf))))))
  refine acall (acall_weakA pkt_weak (gCut px20 1 4 9 10 τ (by decide))) ?_
  rintro _ σ_ ⟨rfl, e_⟩
  obtain rfl := e_.symm
  refine ⟨?_, Ext.refl _⟩
  rw [c1_20]
  dsimp only [amV, pk0]
  ((conv => whnf); (repeat ((first | with_reducible (first | refine zT rfl ?_ | refine zF rfl ?_ | refine zY rfl ?_) | refine zY (by decide) ?_ | refine zN (by decide) ?_ | with_reducible refine zQ ?_); (conv => whnf))))
  refine hnew H rfl ?_
  clear H
  intro i2 τ H
  ((conv => whnf); (repeat ((first | with_reducible (first | refine zT rfl ?_ | refine zF rfl ?_ | refine zY rfl ?_) | refine zY (by decide) ?_ | refine zN (by decide) ?_ | with_reducible refine zQ ?_); (conv => whnf))))
  (repeat ((first | refine zI (by omega) ?_ | refine zE (by omega) (by omega) ?_ | refine zD (by omega) (by omega) ?_ | refine zY (by omega) ?_ | refine zN (by omega) ?_ | refine amin ?_ | refine amax ?_ | refine zU (by omega) ?_ | refine z8 (by omega) ?_ | refine zX (by omega) (by omega) ?_ | refine zR rfl ?_ | refine acellA ?_ | refine zB H b1 rfl ?_ | refine zC H b1 ?_ | refine zB H b2 rfl ?_ | refine zC H b2 ?_ | refine zB H b3 rfl ?_ | refine zC H b3 ?_ | refine zB H b4 rfl ?_ | refine zC H b4 ?_ | (apply zL H; (· repeat first | exact .h | apply AtK.t); (· rfl)) | (apply zA H; (· repeat first | exact .h | apply AtK.t)) | (apply zS H; (· repeat first | exact .h | apply AtK.t); (· rfl); (conv => whnf); clear H; intro τ H) | rw [List.length_map]); ((conv => whnf); (repeat ((first | with_reducible (first | refine zT rfl ?_ | refine zF rfl ?_ | refine zY rfl ?_) | refine zY (by decide) ?_ | refine zN (by decide) ?_ | with_reducible refine zQ ?_); (conv => whnf))))))
  refine acall (acall_weakA pkt_weak (gCut px20 0 4 8 10 τ (by decide))) ?_
  rintro _ σ_ ⟨rfl, e_⟩
  obtain rfl := e_.symm
  refine ⟨?_, Ext.refl _⟩
  rw [c2_20]
  dsimp only [amV, pk0]
  ((conv => whnf); (repeat ((first | with_reducible (first | refine zT rfl ?_ | refine zF rfl ?_ | refine zY rfl ?_) | refine zY (by decide) ?_ | refine zN (by decide) ?_ | with_reducible refine zQ ?_); (conv => whnf))))
  refine hnew H rfl ?_
  clear H
  intro i5 τ H
  ((conv => whnf); (repeat ((first | with_reducible (first | refine zT rfl ?_ | refine zF rfl ?_ | refine zY rfl ?_) | refine zY (by decide) ?_ | refine zN (by decide) ?_ | with_reducible refine zQ ?_); (conv => whnf))))
  (repeat ((first | refine zI (by omega) ?_ | refine zE (by omega) (by omega) ?_ | refine zD (by omega) (by omega) ?_ | refine zY (by omega) ?_ | refine zN (by omega) ?_ | refine amin ?_ | refine amax ?_ | refine zU (by omega) ?_ | refine z8 (by omega) ?_ | refine zX (by omega) (by omega) ?_ | refine zR rfl ?_ | refine acellA ?_ | refine zB H b1 rfl ?_ | refine zC H b1 ?_ | refine zB H b2 rfl ?_ | refine zC H b2 ?_ | refine zB H b3 rfl ?_ | refine zC H b3 ?_ | refine zB H b4 rfl ?_ | refine zC H b4 ?_ | (apply zL H; (· repeat first | exact .h | apply AtK.t); (· rfl)) | (apply zA H; (· repeat first | exact .h | apply AtK.t)) | (apply zS H; (· repeat first | exact .h | apply AtK.t); (· rfl); (conv => whnf); clear H; intro τ H) | rw [List.length_map]); ((conv => whnf); (repeat ((first | with_reducible (first | refine zT rfl ?_ | refine zF rfl ?_ | refine zY rfl ?_) | refine zY (by decide) ?_ | refine zN (by decide) ?_ | with_reducible refine zQ ?_); (conv => whnf))))))
  refine acall (acall_weakA pkt_weak (gCut px20 1 4 4 10 τ (by decide))) ?_
  rintro _ σ_ ⟨rfl, e_⟩
  obtain rfl := e_.symm
  refine ⟨?_, Ext.refl _⟩
  rw [c3_20]
  dsimp only [amV, pk0]
  ((conv => whnf); (repeat ((first | with_reducible (first | refine zT rfl ?_ | refine zF rfl ?_ | refine zY rfl ?_) | refine zY (by decide) ?_ | refine zN (by decide) ?_ | with_reducible refine zQ ?_); (conv => whnf))))
  refine hnew H rfl ?_
  clear H
  intro i8 τ H
  ((conv => whnf); (repeat ((first | with_reducible (first | refine zT rfl ?_ | refine zF rfl ?_ | refine zY rfl ?_) | refine zY (by decide) ?_ | refine zN (by decide) ?_ | with_reducible refine zQ ?_); (conv => whnf))))
  (repeat ((first | refine zI (by omega) ?_ | refine zE (by omega) (by omega) ?_ | refine zD (by omega) (by omega) ?_ | refine zY (by omega) ?_ | refine zN (by omega) ?_ | refine amin ?_ | refine amax ?_ | refine zU (by omega) ?_ | refine z8 (by omega) ?_ | refine zX (by omega) (by omega) ?_ | refine zR rfl ?_ | refine acellA ?_ | refine zB H b1 rfl ?_ | refine zC H b1 ?_ | refine zB H b2 rfl ?_ | refine zC H b2 ?_ | refine zB H b3 rfl ?_ | refine zC H b3 ?_ | refine zB H b4 rfl ?_ | refine zC H b4 ?_ | (apply zL H; (· repeat first | exact .h | apply AtK.t); (· rfl)) | (apply zA H; (· repeat first | exact .h | apply AtK.t)) | (apply zS H; (· repeat first | exact .h | apply AtK.t); (· rfl); (conv => whnf); clear H; intro τ H) | rw [List.length_map]); ((conv => whnf); (repeat ((first | with_reducible (first | refine zT rfl ?_ | refine zF rfl ?_ | refine zY rfl ?_) | refine zY (by decide) ?_ | refine zN (by decide) ?_ | with_reducible refine zQ ?_); (conv => whnf))))))
  refine acall (acall_weakA pkt_weak (gCut px20 4 4 9 10 τ (by decide))) ?_
  rintro _ σ_ ⟨rfl, e_⟩
  obtain rfl := e_.symm
  refine ⟨?_, Ext.refl _⟩
  rw [c4_20]
  dsimp only [amV, pk0]
  ((conv => whnf); (repeat ((first | with_reducible (first | refine zT rfl ?_ | refine zF rfl ?_ | refine zY rfl ?_) | refine zY (by decide) ?_ | refine zN (by decide) ?_ | with_reducible refine zQ ?_); (conv => whnf))))
  refine hnew H rfl ?_
  clear H
  intro i11 τ H
  ((conv => whnf); (repeat ((first | with_reducible (first | refine zT rfl ?_ | refine zF rfl ?_ | refine zY rfl ?_) | refine zY (by decide) ?_ | refine zN (by decide) ?_ | with_reducible refine zQ ?_); (conv => whnf))))
  (repeat ((first | refine zI (by omega) ?_ | refine zE (by omega) (by omega) ?_ | refine zD (by omega) (by omega) ?_ | refine zY (by omega) ?_ | refine zN (by omega) ?_ | refine amin ?_ | refine amax ?_ | refine zU (by omega) ?_ | refine z8 (by omega) ?_ | refine zX (by omega) (by omega) ?_ | refine zR rfl ?_ | refine acellA ?_ | refine zB H b1 rfl ?_ | refine zC H b1 ?_ | refine zB H b2 rfl ?_ | refine zC H b2 ?_ | refine zB H b3 rfl ?_ | refine zC H b3 ?_ | refine zB H b4 rfl ?_ | refine zC H b4 ?_ | (apply zL H; (· repeat first | exact .h | apply AtK.t); (· rfl)) | (apply zA H; (· repeat first | exact .h | apply AtK.t)) | (apply zS H; (· repeat first | exact .h | apply AtK.t); (· rfl); (conv => whnf); clear H; intro τ H) | rw [List.length_map]); ((conv => whnf); (repeat ((first | with_reducible (first | refine zT rfl ?_ | refine zF rfl ?_ | refine zY rfl ?_) | refine zY (by decide) ?_ | refine zN (by decide) ?_ | with_reducible refine zQ ?_); (conv => whnf))))))
  refine aget (x := sl .none [98]) (by omega) rfl ?_
  ((conv => whnf); (repeat ((first | with_reducible (first | refine zT rfl ?_ | refine zF rfl ?_ | refine zY rfl ?_) | refine zY (by decide) ?_ | refine zN (by decide) ?_ | with_reducible refine zQ ?_); (conv => whnf))))
  (repeat ((first | refine zI (by omega) ?_ | refine zE (by omega) (by omega) ?_ | refine zD (by omega) (by omega) ?_ | refine zY (by omega) ?_ | refine zN (by omega) ?_ | refine amin ?_ | refine amax ?_ | refine zU (by omega) ?_ | refine z8 (by omega) ?_ | refine zX (by omega) (by omega) ?_ | refine zR rfl ?_ | refine acellA ?_ | refine zB H b1 rfl ?_ | refine zC H b1 ?_ | refine zB H b2 rfl ?_ | refine zC H b2 ?_ | refine zB H b3 rfl ?_ | refine zC H b3 ?_ | refine zB H b4 rfl ?_ | refine zC H b4 ?_ | (apply zL H; (· repeat first | exact .h | apply AtK.t); (· rfl)) | (apply zA H; (· repeat first | exact .h | apply AtK.t)) | (apply zS H; (· repeat first | exact .h | apply AtK.t); (· rfl); (conv => whnf); clear H; intro τ H) | rw [List.length_map]); ((conv => whnf); (repeat ((first | with_reducible (first | refine zT rfl ?_ | refine zF rfl ?_ | refine zY rfl ?_) | refine zY (by decide) ?_ | refine zN (by decide) ?_ | with_reducible refine zQ ?_); (conv => whnf))))))
  refine astr (bs := [98]) rfl ?_
  ((conv => whnf); (repeat ((first | with_reducible (first | refine zT rfl ?_ | refine zF rfl ?_ | refine zY rfl ?_) | refine zY (by decide) ?_ | refine zN (by decide) ?_ | with_reducible refine zQ ?_); (conv => whnf))))
  (repeat ((first | refine zI (by omega) ?_ | refine zE (by omega) (by omega) ?_ | refine zD (by omega) (by omega) ?_ | refine zY (by omega) ?_ | refine zN (by omega) ?_ | refine amin ?_ | refine amax ?_ | refine zU (by omega) ?_ | refine z8 (by omega) ?_ | refine zX (by omega) (by omega) ?_ | refine zR rfl ?_ | refine acellA ?_ | refine zB H b1 rfl ?_ | refine zC H b1 ?_ | refine zB H b2 rfl ?_ | refine zC H b2 ?_ | refine zB H b3 rfl ?_ | refine zC H b3 ?_ | refine zB H b4 rfl ?_ | refine zC H b4 ?_ | (apply zL H; (· repeat first | exact .h | apply AtK.t); (· rfl)) | (apply zA H; (· repeat first | exact .h | apply AtK.t)) | (apply zS H; (· repeat first | exact .h | apply AtK.t); (· rfl); (conv => whnf); clear H; intro τ H) | rw [List.length_map]); ((conv => whnf); (repeat ((first | with_reducible (first | refine zT rfl ?_ | refine zF rfl ?_ | refine zY rfl ?_) | refine zY (by decide) ?_ | refine zN (by decide) ?_ | with_reducible refine zQ ?_); (conv => whnf))))))
  refine acall (gLeast 16 τ) ?_
  rintro _ σ_ ⟨rfl, e_⟩
  obtain rfl := e_.symm
  refine ⟨?_, Ext.refl _⟩
  ((conv => whnf); (repeat ((first | with_reducible (first | refine zT rfl ?_ | refine zF rfl ?_ | refine zY rfl ?_) | refine zY (by decide) ?_ | refine zN (by decide) ?_ | with_reducible refine zQ ?_); (conv => whnf))))
  rw [show leastV 16 = 6 by decide]
  ((conv => whnf); (repeat ((first | with_reducible (first | refine zT rfl ?_ | refine zF rfl ?_ | refine zY rfl ?_) | refine zY (by decide) ?_ | refine zN (by decide) ?_ | with_reducible refine zQ ?_); (conv => whnf))))
  exact aret (VLe.refl _) H.sub ⟨rfl, rfl⟩
end Go.Proofs.Ytgipkpghabelkaa
/-
  What is so of what goes; plain.
-/
namespace Go.Proofs.Ytgipkpghabelkaa
set_option linter.unusedVariables false
set_option linter.unusedSimpArgs false
open Go Go.Am

theorem fieldsBad_no {l : List (List UInt8)} (h : ∀ i, (hi : i < l.length) → fieldBad l i = false) : fieldsBad l l.length = false := by
  refine Bool.eq_false_iff.2 fun hb => ?_
  obtain ⟨i, hi, hb⟩ := List.any_eq_true.1 hb
  rw [h i (List.mem_range.1 hi)] at hb; cases hb
/-- What a call of the cut may give. -/
inductive CutGives (p : Pk) (a t g w : Int) : Pk × Int × Int → Prop
  | no (c : Int) : c ≠ 0 → (c ≠ 16 ∨ g < leastV w) → CutGives p a t g w (pk0, 0, c)
  | whole : a = 0 → t = total p.fs → amSize p w ≤ g → ¬ noForm p w → ¬ badArg p a t g → CutGives p a t g w ({ p with poll := false }, t, 0)
  | part (x : Nat) : ¬ noForm p w → ¬ badArg p a t g → ¬ goes p a t g w → a < x → (x : Int) ≤ t → amSize (cutPk p a.toNat x) w > 0 → amSize (cutPk p a.toNat x) w ≤ g → amSize (cutPk p a.toNat x) w = amHead true w + sizeV (((pcs p.fs a.toNat x).length : Int) - 1) (lenW w) + (x - a) → (1 ≤ (pcs p.fs a.toNat x).length ∧ (pcs p.fs a.toNat x).length ≤ p.fs.length) → CutGives p a t g w (cutPk p a.toNat x, (x : Int), 0)
theorem cutFi_range (p : Pk) (a x : Nat) : 0 ≤ cutFi p a x ∧ cutFi p a x ≤ 3 := by unfold cutFi; repeat' split <;> omega
theorem amHead_true {w : Int} (h : w = 10 ∨ w = 16) : amHead true w = amHead false w + 2 := by rcases h with rfl | rfl <;> decide
theorem cut_gives (p : Pk) (a t g w : Int) : CutGives p a t g w (cutRes p a t g w) := by
  unfold cutRes
  by_cases h1 : noForm p w
  · rw [if_pos h1]; exact .no 3 (by decide) (.inl (by decide))
  rw [if_neg h1]
  by_cases h2 : badArg p a t g
  · rw [if_pos h2]; exact .no 1 (by decide) (.inl (by decide))
  rw [if_neg h2]
  by_cases h3 : goes p a t g w
  · rw [if_pos h3]; exact .whole h3.1 h3.2.1 h3.2.2 h1 h2
  rw [if_neg h3]
  have hr : amSize p w > 0 := Decidable.byContradiction fun h => h1 (.inr h)
  obtain ⟨hw, hf1, hf2, hsn, hfo, ho1, ho2, hpl⟩ := amSize_ok hr
  have g1 := hfo.one
  have g2 := hfo.most
  have g3 := hfo.fits
  have hhr := amHead_range p.part w
  have hht := amHead_range true w
  have hsz0 := sizeV_range ((p.fs.length : Int) - 1) (lenW w)
  have hba : 0 ≤ a ∧ a < t ∧ t ≤ total p.fs ∧ 0 ≤ g ∧ g ≤ 4096 := by
    refine ⟨?_, ?_, ?_, ?_, ?_⟩ <;> refine Decidable.byContradiction fun h => h2 ?_
    · exact .inr (.inr (.inl (by omega)))
    · exact .inr (.inr (.inr (.inl (by omega))))
    · exact .inr (.inr (.inr (.inr (by omega))))
    · exact .inl (by omega)
    · exact .inr (.inl (by omega))
  obtain ⟨s1, s2, s3, s4⟩ := cutEnd_spec (fs := p.fs) (room := min g 4000 - amHead true w) (lw := lenW w) (a := a.toNat) (t.toNat - a.toNat) a.toNat
  rw [show cutEnd p.fs (min g 4000 - amHead true w) (lenW w) a.toNat (t.toNat - a.toNat) a.toNat = cutAt p a t g w from rfl] at s1 s2 s3 s4
  by_cases h4 : cutAt p a t g w = a.toNat
  · rw [if_pos h4]
    refine .no 16 (by decide) (.inr ?_)
    have hk := s4 (by omega)
    rw [h4] at hk
    unfold okB at hk
    have hl : (pcs p.fs a.toNat (a.toNat + 1)).length = 1 := by
      have hn := pcs_new (fs := p.fs) (a := a.toNat) (x := a.toNat) (y := a.toNat + 1) (Nat.le_refl _) (Nat.lt_succ_self _) (by omega) (.inl rfl) (fun z h1 h2 => by omega)
      rw [hn, pcs_nil (Nat.le_refl _)]; rfl
    rw [hl] at hk
    have hz : sizeV (((1 : Nat) : Int) - 1) (lenW w) = 0 := by unfold sizeV; rw [if_pos (.inr (.inl (by decide)))]
    rw [hz] at hk
    have hne : amHead true w ≠ 0 := by rcases hw with rfl | rfl <;> decide
    unfold leastV
    rw [if_neg hne]
    omega
  · rw [if_neg h4]
    generalize cutAt p a t g w = x at *
    have hax : a.toNat < x := by omega
    have hk := s3 (x - 1) (by omega) (by omega)
    unfold okB at hk
    rw [show x - 1 + 1 = x by omega] at hk
    have hpl := pcs_len (fs := p.fs) (a := a.toNat) (b := x)
    have hpp := pcs_pos (fs := p.fs) hax (by omega)
    have hpc := pcs_total (fs := p.fs) (a := a.toNat) (b := x) (by omega) (by omega)
    have hst : amSize (cutPk p a.toNat x) w = amHead true w + sizeV (((pcs p.fs a.toNat x).length : Int) - 1) (lenW w) + (x - a) := by
      have hnb : ¬ amBad (cutPk p a.toNat x) w := by
        have hfr := cutFi_range p a.toNat x
        rintro (h | h)
        · rcases h with h | h | h | h
          · rw [amWidth_iff.2 hw] at h; cases h
          · have : cutFi p a.toNat x < 0 := h; omega
          · have : cutFi p a.toNat x > 3 := h; omega
          · rw [show (cutPk p a.toNat x).sn = p.sn from rfl, hsn] at h; cases h
        · rcases h with h | h | h
          · cases h.1
          · have : ((a.toNat : Nat) : Int) < 0 := h; omega
          · have h : ((a.toNat : Nat) : Int) ≥ offTop w := h
            have : offTop w ≥ 32768 := by unfold offTop; split <;> omega
            omega
      unfold amSize
      rw [if_neg hnb]
      show fieldsV (pcs p.fs a.toNat x) (amHead true w) (lenW w) = _
      unfold fieldsV
      rw [if_neg (by omega), fieldsBad_no (fun i hi => ?_), if_neg (by decide), if_neg (by omega)]
      · omega
      · rw [fieldBad_get hi]
        refine decide_eq_false ?_
        rintro (h | ⟨h, h'⟩)
        · exact pcs_ne (List.getElem_mem hi) h
        · have := pcs_bound (B := 2047) (fs := p.fs) (a := a.toNat) (b := x) (fun j hj hj2 => (hfo.each j hj).2 hj2) i hi h'
          omega
    have hsz := sizeV_range (((pcs p.fs a.toNat x).length : Int) - 1) (lenW w)
    exact .part x h1 h2 h3 (by omega) (by omega) (by omega) (by omega) hst ⟨hpp, by omega⟩
theorem badArg_no {p : Pk} {a t g : Int} (h : ¬ badArg p a t g) : 0 ≤ a ∧ a < t ∧ t ≤ total p.fs ∧ 0 ≤ g ∧ g ≤ 4096 := by
  refine ⟨?_, ?_, ?_, ?_, ?_⟩ <;> refine Decidable.byContradiction fun k => h ?_
  · exact .inr (.inr (.inl (by omega)))
  · exact .inr (.inr (.inr (.inl (by omega))))
  · exact .inr (.inr (.inr (.inr (by omega))))
  · exact .inl (by omega)
  · exact .inr (.inl (by omega))
end Go.Proofs.Ytgipkpghabelkaa
