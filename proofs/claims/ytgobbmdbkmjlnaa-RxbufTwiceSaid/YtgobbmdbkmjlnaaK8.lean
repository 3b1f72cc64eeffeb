/-
  Texts of this claim, pack 8: Crxbd, Cmsa, Crxbe, Crxbf, Crxbg.
-/
import Derived.Test.YtgobbmdbkmjlnaaK5
import Derived.Test.YtgobbmdbkmjlnaaK6
import Derived.Test.YtgobbmdbkmjlnaaK7
/-
  What came in parts: a packet that comes.
-/
namespace Go.Proofs.Ytgobbmdbkmjlnaa
set_option linter.unusedVariables false
set_option linter.unusedSimpArgs false
set_option maxRecDepth 20000
open Go Go.Am

theorem Hp.mid {σb σ : AHeap} {A B C : List HE} (H : Hp σb (A ++ (B ++ C)) σ) : Hp σb (B ++ (A ++ C)) σ :=
  H.perm (by rw [← List.append_assoc, ← List.append_assoc]; exact List.perm_append_comm.append_right _)
theorem Hp.mid2 {σb σ : AHeap} {A B C D : List HE} (H : Hp σb (A ++ (B ++ (C ++ D))) σ) : Hp σb (A ++ (C ++ (B ++ D))) σ :=
  H.perm (List.Perm.append_left A (by rw [← List.append_assoc, ← List.append_assoc]; exact List.perm_append_comm.append_right _))
theorem Hp.rest {σb σ : AHeap} {A L : List HE} (H : Hp σb (A ++ L) σ) : Hp σb L σ := (H.perm List.perm_append_comm).left
theorem RB.cells1 {v : AVal} {D : List UInt8} {E : List HE} (h : RB v D E) : v.cells = [v] := by cases h <;> rfl
theorem mapSet_same : ∀ {es : List (Int × AVal)} {n : Int} {x : AVal}, es.find? (fun e => e.1 == n) = some (n, x) → mapSet es n x = es
  | [], _, _, h => by simp at h
  | (m, y) :: r, n, x, h => by
    rw [List.find?_cons] at h
    by_cases hm : m = n
    · subst hm
      simp at h
      subst h
      simp [mapSet]
    · have hb : (m == n) = false := by simp [hm]
      dsimp only at h
      rw [hb] at h
      simp [mapSet, hm, mapSet_same (es := r) h]
theorem mapSet_new {es : List (Int × AVal)} {n : Int} {x : AVal} (h : es.find? (fun e => e.1 == n) = none) : mapSet es n x = es ++ [(n, x)] := by
  induction es with
  | nil => rfl
  | cons a r ih =>
    rw [List.find?_cons] at h
    obtain ⟨m, y⟩ := a
    by_cases hm : m = n
    · subst hm; simp at h
    · have hb : (m == n) = false := by simp [hm]
      dsimp only at h
      rw [hb] at h
      simp [mapSet, hm, ih h]
def endsB (p : Pk) : Bool := !p.part || p.last
/-- A packet's bytes, as a span. -/
def spanP (p : Pk) : Sp := (p.off, p.off + (total p.fs : Int))
/-- What Put says, of what is there of a piece. -/
def putK (p : Pk) (l : List Sp) (e : Int) : Int :=
  if rightB p = false then 1 else if fitsC l e (spanP p) (endsB p) ≠ 0 then fitsC l e (spanP p) (endsB p) else addC (spanP p) l
theorem right_ok {p : Pk} (h : rightB p = true) : 1 ≤ p.fs.length ∧ p.fs.length ≤ 24 ∧ (∀ f ∈ p.fs, f ≠ []) ∧ 0 ≤ p.fi ∧ p.fi ≤ 3 ∧ 0 ≤ p.off ∧ p.off ≤ 4000 ∧ (p.part = true ∨ p.off = 0) ∧ p.off + (total p.fs : Int) ≤ 4000 := by
  unfold rightB at h
  simp only [Bool.and_eq_true, Bool.not_eq_true', Bool.or_eq_false_iff, decide_eq_false_iff_not, decide_eq_true_eq, Bool.or_eq_true] at h
  obtain ⟨⟨⟨⟨⟨h1, h2⟩, h3⟩, h4⟩, h5⟩, ⟨⟨h6, h7⟩, h8⟩, h9⟩ := h
  refine ⟨by omega, by omega, fun f hf e => ?_, by omega, by omega, h6, h7, h8, by omega⟩
  have : hollowB p.fs = true := List.any_eq_true.2 ⟨f, hf, decide_eq_true e⟩
  rw [this] at h3; cases h3
theorem right_pos {p : Pk} (h : rightB p = true) : 1 ≤ total p.fs := by
  obtain ⟨h1, _, h3, _⟩ := right_ok h
  have h4 := total_get (l := p.fs) (i := 0) (by omega)
  have h5 : p.fs[0].length ≠ 0 := fun e => h3 _ (List.getElem_mem (by omega)) (List.length_eq_zero_iff.1 e)
  omega

section
variable {σb σ : AHeap} {ib im ip is ig : Nat} {e fi : Int} {l : List Sp} {tk : Tok} {v : AVal} {D : List UInt8} {em es : List (Int × AVal)} {E G : List HE}
theorem peFillA (h : RB v D E) (H : Hp σb (.o ip (.cells (peC v is e ig fi)) :: .o is (.cells [spL tk l]) :: (E ++ G)) σ) (f : Nat) (off : Int) (ho : off = f) (d : List UInt8) (hd : d ≠ []) (hf : f + d.length ≤ 1000000) (hD : D.length ≤ 1000000) (hl : l.length ≤ 1000000) :
    ACalls Try.prog i_rxbuf_piece_fill [.ptr ip 0, i64v off, sl .none d] σ fun r σ' => r = .tup [] ∧ ∃ v' E', RB v' (fillB l f d D) E' ∧ Hp σb (.o ip (.cells (peC v' is e ig fi)) :: .o is (.cells [spL tk l]) :: (E' ++ G)) σ' := by
  subst ho
  refine acall_less (peFill h (Hp.mid (A := [.o ip (.cells (peC v is e ig fi)), .o is (.cells [spL tk l])]) H) f d hd hf hD hl) ?_
  rintro _ σ' ⟨rfl, v', E', h', H'⟩
  exact ⟨_, _, VLe.refl _, Sub.refl _, rfl, v', E', h', Hp.mid (B := [.o ip (.cells (peC v' is e ig fi)), .o is (.cells [spL tk l])]) H'⟩

set_option maxHeartbeats 8000000 in
theorem buPutOld (h : RB v D E) (H : Hp σb (.o ip (.cells (peC v is e ig fi)) :: .o is (.cells [spL tk l]) :: .o ig (.map em) :: .o ib (.cells (buC im)) :: .o im (.map es) :: (E ++ G)) σ) (p : Pk) (he : es.find? (fun e => e.1 == p.sn) = some (p.sn, .ptr ip 0)) (hs : SOk l)
    (hD : D.length ≤ 1000000) (hl : p.fs.length ≤ 1000) (ht : total p.fs ≤ 1000000) :
    ACalls Try.prog i_rxbuf_Buffer_Put [.ptr ib 0, amV p] σ fun r σ' => r = i64v (putK p l e) ∧
      ((putK p l e ≠ 0 ∧ ∃ u, Hp σb (.o ip (.cells (peC v is e ig fi)) :: .o is (.cells [spL u l]) :: .o ig (.map em) :: .o ib (.cells (buC im)) :: .o im (.map es) :: (E ++ G)) σ') ∨
       (putK p l e = 0 ∧ ∃ v2 E2 u, RB v2 (fillB l p.off.toNat p.fs.flatten D) E2 ∧ Hp σb (.o ip (.cells (peC v2 is (noteE p (endsB p) e) ig (noteF p (endsB p) fi))) :: .o is (.cells [spL u (addS (spanP p) l)]) :: .o ig (.map (noteM p (endsB p) em)) :: .o ib (.cells (buC im)) :: .o im (.map es) :: (E2 ++ G)) σ')) := by
  refine k_rxbuf_Buffer_Put rfl ?_
  ((conv => whnf); (repeat ((first | with_reducible (first | refine zT rfl ?_ | refine zF rfl ?_ | refine zY rfl ?_) | refine zY (by decide) ?_ | refine zN (by decide) ?_ | with_reducible refine zQ ?_); (conv => whnf))))
  refine hnew H rfl ?_
  clear H
  intro i3 τ H
  ((conv => whnf); (repeat ((first | with_reducible (first | refine zT rfl ?_ | refine zF rfl ?_ | refine zY rfl ?_) | refine zY (by decide) ?_ | refine zN (by decide) ?_ | with_reducible refine zQ ?_); (conv => whnf))))
  refine acall (buMade (H.get (k := 4) rfl)) ?_
  rintro _ σ_ ⟨rfl, e_⟩
  obtain rfl := e_.symm
  refine ⟨?_, Ext.refl _⟩
  ((conv => whnf); (repeat ((first | with_reducible (first | refine zT rfl ?_ | refine zF rfl ?_ | refine zY rfl ?_) | refine zY (by decide) ?_ | refine zN (by decide) ?_ | with_reducible refine zQ ?_); (conv => whnf))))
  (repeat ((first | refine zI (by omega) ?_ | refine zE (by omega) (by omega) ?_ | refine zD (by omega) (by omega) ?_ | refine zY (by omega) ?_ | refine zN (by omega) ?_ | refine amin ?_ | refine amax ?_ | refine zU (by omega) ?_ | refine z8 (by omega) ?_ | refine zX (by omega) (by omega) ?_ | refine zR rfl ?_ | refine acellA ?_ | refine zB H b1 rfl ?_ | refine zC H b1 ?_ | refine zB H b2 rfl ?_ | refine zC H b2 ?_ | refine zB H b3 rfl ?_ | refine zC H b3 ?_ | refine zB H b4 rfl ?_ | refine zC H b4 ?_ | (apply zL H; (· repeat first | exact .h | apply AtK.t); (· rfl)) | (apply zA H; (· repeat first | exact .h | apply AtK.t)) | (apply zS H; (· repeat first | exact .h | apply AtK.t); (· rfl); (conv => whnf); clear H; intro τ H) | rw [List.length_map]); ((conv => whnf); (repeat ((first | with_reducible (first | refine zT rfl ?_ | refine zF rfl ?_ | refine zY rfl ?_) | refine zY (by decide) ?_ | refine zN (by decide) ?_ | with_reducible refine zQ ?_); (conv => whnf))))))
  refine acall (buRight p τ hl (by omega)) ?_
  rintro _ σ_ ⟨rfl, e_⟩
  obtain rfl := e_.symm
  refine ⟨?_, Ext.refl _⟩
  ((conv => whnf); (repeat ((first | with_reducible (first | refine zT rfl ?_ | refine zF rfl ?_ | refine zY rfl ?_) | refine zY (by decide) ?_ | refine zN (by decide) ?_ | with_reducible refine zQ ?_); (conv => whnf))))
  rcases (show rightB p = false ∨ rightB p = true by cases rightB p <;> simp) with hr | hr
  · have hk : putK p l e = 1 := by unfold putK; rw [if_pos hr]
    rw [hr]
    ((conv => whnf); (repeat ((first | with_reducible (first | refine zT rfl ?_ | refine zF rfl ?_ | refine zY rfl ?_) | refine zY (by decide) ?_ | refine zN (by decide) ?_ | with_reducible refine zQ ?_); (conv => whnf))))
    (repeat ((first | refine zI (by omega) ?_ | refine zE (by omega) (by omega) ?_ | refine zD (by omega) (by omega) ?_ | refine zY (by omega) ?_ | refine zN (by omega) ?_ | refine amin ?_ | refine amax ?_ | refine zU (by omega) ?_ | refine z8 (by omega) ?_ | refine zX (by omega) (by omega) ?_ | refine zR rfl ?_ | refine acellA ?_ | refine zB H b1 rfl ?_ | refine zC H b1 ?_ | refine zB H b2 rfl ?_ | refine zC H b2 ?_ | refine zB H b3 rfl ?_ | refine zC H b3 ?_ | refine zB H b4 rfl ?_ | refine zC H b4 ?_ | (apply zL H; (· repeat first | exact .h | apply AtK.t); (· rfl)) | (apply zA H; (· repeat first | exact .h | apply AtK.t)) | (apply zS H; (· repeat first | exact .h | apply AtK.t); (· rfl); (conv => whnf); clear H; intro τ H) | rw [List.length_map]); ((conv => whnf); (repeat ((first | with_reducible (first | refine zT rfl ?_ | refine zF rfl ?_ | refine zY rfl ?_) | refine zY (by decide) ?_ | refine zN (by decide) ?_ | with_reducible refine zQ ?_); (conv => whnf))))))
    exact aret (VLe.refl _) (Sub.refl _) ⟨by rw [hk], .inl ⟨by rw [hk]; decide, ⟨tk, H.tail⟩⟩⟩
  rw [hr]
  obtain ⟨g1, g2, g3, g4, g5, g6, g7, g8, g9⟩ := right_ok hr
  have gp := right_pos hr
  have hdn : p.fs.flatten ≠ [] := fun h => by have : total p.fs = 0 := by unfold total; rw [h]; rfl
                                              omega
  have htl : p.fs.flatten.length = total p.fs := rfl
  ((conv => whnf); (repeat ((first | with_reducible (first | refine zT rfl ?_ | refine zF rfl ?_ | refine zY rfl ?_) | refine zY (by decide) ?_ | refine zN (by decide) ?_ | with_reducible refine zQ ?_); (conv => whnf))))
  (repeat ((first | refine zI (by omega) ?_ | refine zE (by omega) (by omega) ?_ | refine zD (by omega) (by omega) ?_ | refine zY (by omega) ?_ | refine zN (by omega) ?_ | refine amin ?_ | refine amax ?_ | refine zU (by omega) ?_ | refine z8 (by omega) ?_ | refine zX (by omega) (by omega) ?_ | refine zR rfl ?_ | refine acellA ?_ | refine zB H b1 rfl ?_ | refine zC H b1 ?_ | refine zB H b2 rfl ?_ | refine zC H b2 ?_ | refine zB H b3 rfl ?_ | refine zC H b3 ?_ | refine zB H b4 rfl ?_ | refine zC H b4 ?_ | (apply zL H; (· repeat first | exact .h | apply AtK.t); (· rfl)) | (apply zA H; (· repeat first | exact .h | apply AtK.t)) | (apply zS H; (· repeat first | exact .h | apply AtK.t); (· rfl); (conv => whnf); clear H; intro τ H) | rw [List.length_map]); ((conv => whnf); (repeat ((first | with_reducible (first | refine zT rfl ?_ | refine zF rfl ?_ | refine zY rfl ?_) | refine zY (by decide) ?_ | refine zN (by decide) ?_ | with_reducible refine zQ ?_); (conv => whnf))))))
  refine acall (aData p τ hl (by omega)) ?_
  rintro _ σ_ ⟨rfl, e_⟩
  obtain rfl := e_.symm
  refine ⟨?_, Ext.refl _⟩
  ((conv => whnf); (repeat ((first | with_reducible (first | refine zT rfl ?_ | refine zF rfl ?_ | refine zY rfl ?_) | refine zY (by decide) ?_ | refine zN (by decide) ?_ | with_reducible refine zQ ?_); (conv => whnf))))
  (repeat ((first | refine zI (by omega) ?_ | refine zE (by omega) (by omega) ?_ | refine zD (by omega) (by omega) ?_ | refine zY (by omega) ?_ | refine zN (by omega) ?_ | refine amin ?_ | refine amax ?_ | refine zU (by omega) ?_ | refine z8 (by omega) ?_ | refine zX (by omega) (by omega) ?_ | refine zR rfl ?_ | refine acellA ?_ | refine zB H b1 rfl ?_ | refine zC H b1 ?_ | refine zB H b2 rfl ?_ | refine zC H b2 ?_ | refine zB H b3 rfl ?_ | refine zC H b3 ?_ | refine zB H b4 rfl ?_ | refine zC H b4 ?_ | (apply zL H; (· repeat first | exact .h | apply AtK.t); (· rfl)) | (apply zA H; (· repeat first | exact .h | apply AtK.t)) | (apply zS H; (· repeat first | exact .h | apply AtK.t); (· rfl); (conv => whnf); clear H; intro τ H) | rw [List.length_map]); ((conv => whnf); (repeat ((first | with_reducible (first | refine zT rfl ?_ | refine zF rfl ?_ | refine zY rfl ?_) | refine zY (by decide) ?_ | refine zN (by decide) ?_ | with_reducible refine zQ ?_); (conv => whnf))))))
  refine hnew H rfl ?_
  clear H
  intro i6 τ H
  ((conv => whnf); (repeat ((first | with_reducible (first | refine zT rfl ?_ | refine zF rfl ?_ | refine zY rfl ?_) | refine zY (by decide) ?_ | refine zN (by decide) ?_ | with_reducible refine zQ ?_); (conv => whnf))))
  (repeat ((first | refine zI (by omega) ?_ | refine zE (by omega) (by omega) ?_ | refine zD (by omega) (by omega) ?_ | refine zY (by omega) ?_ | refine zN (by omega) ?_ | refine amin ?_ | refine amax ?_ | refine zU (by omega) ?_ | refine z8 (by omega) ?_ | refine zX (by omega) (by omega) ?_ | refine zR rfl ?_ | refine acellA ?_ | refine zB H b1 rfl ?_ | refine zC H b1 ?_ | refine zB H b2 rfl ?_ | refine zC H b2 ?_ | refine zB H b3 rfl ?_ | refine zC H b3 ?_ | refine zB H b4 rfl ?_ | refine zC H b4 ?_ | (apply zL H; (· repeat first | exact .h | apply AtK.t); (· rfl)) | (apply zA H; (· repeat first | exact .h | apply AtK.t)) | (apply zS H; (· repeat first | exact .h | apply AtK.t); (· rfl); (conv => whnf); clear H; intro τ H) | rw [List.length_map]); ((conv => whnf); (repeat ((first | with_reducible (first | refine zT rfl ?_ | refine zF rfl ?_ | refine zY rfl ?_) | refine zY (by decide) ?_ | refine zN (by decide) ?_ | with_reducible refine zQ ?_); (conv => whnf))))))
  rcases (show p.part = false ∨ p.part = true by cases p.part <;> simp) with hp | hp
  · have hen : endsB p = true := by unfold endsB; rw [hp]; rfl
    refine abr_true (show (!p.part) = true by rw [hp]; rfl) ?_
    ((conv => whnf); (repeat ((first | with_reducible (first | refine zT rfl ?_ | refine zF rfl ?_ | refine zY rfl ?_) | refine zY (by decide) ?_ | refine zN (by decide) ?_ | with_reducible refine zQ ?_); (conv => whnf))))
    (repeat ((first | refine zI (by omega) ?_ | refine zE (by omega) (by omega) ?_ | refine zD (by omega) (by omega) ?_ | refine zY (by omega) ?_ | refine zN (by omega) ?_ | refine amin ?_ | refine amax ?_ | refine zU (by omega) ?_ | refine z8 (by omega) ?_ | refine zX (by omega) (by omega) ?_ | refine zR rfl ?_ | refine acellA ?_ | refine zB H b1 rfl ?_ | refine zC H b1 ?_ | refine zB H b2 rfl ?_ | refine zC H b2 ?_ | refine zB H b3 rfl ?_ | refine zC H b3 ?_ | refine zB H b4 rfl ?_ | refine zC H b4 ?_ | (apply zL H; (· repeat first | exact .h | apply AtK.t); (· rfl)) | (apply zA H; (· repeat first | exact .h | apply AtK.t)) | (apply zS H; (· repeat first | exact .h | apply AtK.t); (· rfl); (conv => whnf); clear H; intro τ H) | rw [List.length_map]); ((conv => whnf); (repeat ((first | with_reducible (first | refine zT rfl ?_ | refine zF rfl ?_ | refine zY rfl ?_) | refine zY (by decide) ?_ | refine zN (by decide) ?_ | with_reducible refine zQ ?_); (conv => whnf))))))
    refine hlook H (k := 6) rfl ?_
    rw [he, Option.map_some, Option.getD_some]
    ((conv => whnf); (repeat ((first | with_reducible (first | refine zT rfl ?_ | refine zF rfl ?_ | refine zY rfl ?_) | refine zY (by decide) ?_ | refine zN (by decide) ?_ | with_reducible refine zQ ?_); (conv => whnf))))
    (repeat ((first | refine zI (by omega) ?_ | refine zE (by omega) (by omega) ?_ | refine zD (by omega) (by omega) ?_ | refine zY (by omega) ?_ | refine zN (by omega) ?_ | refine amin ?_ | refine amax ?_ | refine zU (by omega) ?_ | refine z8 (by omega) ?_ | refine zX (by omega) (by omega) ?_ | refine zR rfl ?_ | refine acellA ?_ | refine zB H b1 rfl ?_ | refine zC H b1 ?_ | refine zB H b2 rfl ?_ | refine zC H b2 ?_ | refine zB H b3 rfl ?_ | refine zC H b3 ?_ | refine zB H b4 rfl ?_ | refine zC H b4 ?_ | (apply zL H; (· repeat first | exact .h | apply AtK.t); (· rfl)) | (apply zA H; (· repeat first | exact .h | apply AtK.t)) | (apply zS H; (· repeat first | exact .h | apply AtK.t); (· rfl); (conv => whnf); clear H; intro τ H) | rw [List.length_map]); ((conv => whnf); (repeat ((first | with_reducible (first | refine zT rfl ?_ | refine zF rfl ?_ | refine zY rfl ?_) | refine zY (by decide) ?_ | refine zN (by decide) ?_ | with_reducible refine zQ ?_); (conv => whnf))))))
    replace H := Hp.mid (A := [.o i6 (.cells [i64v p.off, i64v (p.off + (total p.fs : Int))]), .o i3 (.cells (amC p))]) (B := [.o ip (.cells (peC v is e ig fi)), .o is (.cells [spL tk l]), .o ig (.map em)]) (C := .o ib (.cells (buC im)) :: .o im (.map es) :: (E ++ G)) H
    replace H : Hp σb (.o ip (.cells (peC v is e ig fi)) :: .o is (.cells [spL tk l]) :: .o ig (.map em) :: .o i6 (.cells [i64v p.off, i64v (p.off + (total p.fs : Int))]) :: .o i3 (.cells (amC p)) :: .o ib (.cells (buC im)) :: .o im (.map es) :: (E ++ G)) τ := H
    refine acall (peFits (H.get (k := 0) rfl) (H.get (k := 1) rfl) (by have := hs.k; omega) (spanP p) true) ?_
    rintro _ σ_ ⟨rfl, e_⟩
    obtain rfl := e_.symm
    refine ⟨?_, Ext.refl _⟩
    ((conv => whnf); (repeat ((first | with_reducible (first | refine zT rfl ?_ | refine zF rfl ?_ | refine zY rfl ?_) | refine zY (by decide) ?_ | refine zN (by decide) ?_ | with_reducible refine zQ ?_); (conv => whnf))))
    have hk : putK p l e = if fitsC l e (spanP p) true ≠ 0 then fitsC l e (spanP p) true else addC (spanP p) l := by unfold putK; rw [if_neg (by rw [hr]; simp), hen]
    by_cases hc : fitsC l e (spanP p) true = 0
    case neg =>
      rw [if_pos hc] at hk
      (repeat ((first | refine zI (by omega) ?_ | refine zE (by omega) (by omega) ?_ | refine zD (by omega) (by omega) ?_ | refine zY (by omega) ?_ | refine zN (by omega) ?_ | refine amin ?_ | refine amax ?_ | refine zU (by omega) ?_ | refine z8 (by omega) ?_ | refine zX (by omega) (by omega) ?_ | refine zR rfl ?_ | refine acellA ?_ | refine zB H b1 rfl ?_ | refine zC H b1 ?_ | refine zB H b2 rfl ?_ | refine zC H b2 ?_ | refine zB H b3 rfl ?_ | refine zC H b3 ?_ | refine zB H b4 rfl ?_ | refine zC H b4 ?_ | (apply zL H; (· repeat first | exact .h | apply AtK.t); (· rfl)) | (apply zA H; (· repeat first | exact .h | apply AtK.t)) | (apply zS H; (· repeat first | exact .h | apply AtK.t); (· rfl); (conv => whnf); clear H; intro τ H) | rw [List.length_map]); ((conv => whnf); (repeat ((first | with_reducible (first | refine zT rfl ?_ | refine zF rfl ?_ | refine zY rfl ?_) | refine zY (by decide) ?_ | refine zN (by decide) ?_ | with_reducible refine zQ ?_); (conv => whnf))))))
      exact aret (VLe.refl _) (Sub.refl _) ⟨by rw [hk], .inl ⟨by rw [hk]; exact hc, ⟨tk, Hp.rest (A := [.o i6 (.cells [i64v p.off, i64v (p.off + (total p.fs : Int))]), .o i3 (.cells (amC p))]) (Hp.mid (A := [.o ip (.cells (peC v is e ig fi)), .o is (.cells [spL tk l]), .o ig (.map em)]) (B := [.o i6 (.cells [i64v p.off, i64v (p.off + (total p.fs : Int))]), .o i3 (.cells (amC p))]) (C := .o ib (.cells (buC im)) :: .o im (.map es) :: (E ++ G)) H)⟩⟩⟩
    rw [if_neg (by rw [hc]; simp)] at hk
    rw [hc]
    ((conv => whnf); (repeat ((first | with_reducible (first | refine zT rfl ?_ | refine zF rfl ?_ | refine zY rfl ?_) | refine zY (by decide) ?_ | refine zN (by decide) ?_ | with_reducible refine zQ ?_); (conv => whnf))))
    (repeat ((first | refine zI (by omega) ?_ | refine zE (by omega) (by omega) ?_ | refine zD (by omega) (by omega) ?_ | refine zY (by omega) ?_ | refine zN (by omega) ?_ | refine amin ?_ | refine amax ?_ | refine zU (by omega) ?_ | refine z8 (by omega) ?_ | refine zX (by omega) (by omega) ?_ | refine zR rfl ?_ | refine acellA ?_ | refine zB H b1 rfl ?_ | refine zC H b1 ?_ | refine zB H b2 rfl ?_ | refine zC H b2 ?_ | refine zB H b3 rfl ?_ | refine zC H b3 ?_ | refine zB H b4 rfl ?_ | refine zC H b4 ?_ | (apply zL H; (· repeat first | exact .h | apply AtK.t); (· rfl)) | (apply zA H; (· repeat first | exact .h | apply AtK.t)) | (apply zS H; (· repeat first | exact .h | apply AtK.t); (· rfl); (conv => whnf); clear H; intro τ H) | rw [List.length_map]); ((conv => whnf); (repeat ((first | with_reducible (first | refine zT rfl ?_ | refine zF rfl ?_ | refine zY rfl ?_) | refine zY (by decide) ?_ | refine zN (by decide) ?_ | with_reducible refine zQ ?_); (conv => whnf))))))
    refine acall (cloneB (RB.dv (F := [.o ip (.cells (peC v is e ig fi)), .o is (.cells [spL tk l]), .o ig (.map em), .o i6 (.cells [i64v p.off, i64v (p.off + (total p.fs : Int))]), .o i3 (.cells (amC p)), .o ib (.cells (buC im)), .o im (.map es)]) h H) (by omega)) ?_
    rintro v1 υ ⟨E1, h1, N⟩
    refine ⟨?_, N.ext⟩
    replace H := Hp.mid (A := E1) (B := [.o ip (.cells (peC v is e ig fi)), .o is (.cells [spL tk l]), .o ig (.map em), .o i6 (.cells [i64v p.off, i64v (p.off + (total p.fs : Int))]), .o i3 (.cells (amC p)), .o ib (.cells (buC im)), .o im (.map es)]) (C := E ++ G) (H.join N)
    replace H : Hp σb (.o ip (.cells (peC v is e ig fi)) :: .o is (.cells [spL tk l]) :: .o ig (.map em) :: .o i6 (.cells [i64v p.off, i64v (p.off + (total p.fs : Int))]) :: .o i3 (.cells (amC p)) :: .o ib (.cells (buC im)) :: .o im (.map es) :: (E1 ++ (E ++ G))) υ := H
    clear N
    ((conv => whnf); (repeat ((first | with_reducible (first | refine zT rfl ?_ | refine zF rfl ?_ | refine zY rfl ?_) | refine zY (by decide) ?_ | refine zN (by decide) ?_ | with_reducible refine zQ ?_); (conv => whnf))))
    (repeat ((first | refine zI (by omega) ?_ | refine zE (by omega) (by omega) ?_ | refine zD (by omega) (by omega) ?_ | refine zY (by omega) ?_ | refine zN (by omega) ?_ | refine amin ?_ | refine amax ?_ | refine zU (by omega) ?_ | refine z8 (by omega) ?_ | refine zX (by omega) (by omega) ?_ | refine zR rfl ?_ | refine acellA ?_ | refine zB H b1 rfl ?_ | refine zC H b1 ?_ | refine zB H b2 rfl ?_ | refine zC H b2 ?_ | refine zB H b3 rfl ?_ | refine zC H b3 ?_ | refine zB H b4 rfl ?_ | refine zC H b4 ?_ | (apply zL H; (· repeat first | exact .h | apply AtK.t); (· rfl)) | (apply zA H; (· repeat first | exact .h | apply AtK.t)) | (apply zS H; (· repeat first | exact .h | apply AtK.t); (· rfl); (conv => whnf); clear H; intro τ H) | rw [List.length_map]); ((conv => whnf); (repeat ((first | with_reducible (first | refine zT rfl ?_ | refine zF rfl ?_ | refine zY rfl ?_) | refine zY (by decide) ?_ | refine zN (by decide) ?_ | with_reducible refine zQ ?_); (conv => whnf))))))
    rw [h1.cells1]
    ((conv => whnf); (repeat ((first | with_reducible (first | refine zT rfl ?_ | refine zF rfl ?_ | refine zY rfl ?_) | refine zY (by decide) ?_ | refine zN (by decide) ?_ | with_reducible refine zQ ?_); (conv => whnf))))
    apply zS H
    · exact .h
    · show (v1.isCell && true) = true
      rw [h1.isCell]; rfl
    (conv => whnf)
    clear H
    intro τ H
    ((conv => whnf); (repeat ((first | with_reducible (first | refine zT rfl ?_ | refine zF rfl ?_ | refine zY rfl ?_) | refine zY (by decide) ?_ | refine zN (by decide) ?_ | with_reducible refine zQ ?_); (conv => whnf))))
    (repeat ((first | refine zI (by omega) ?_ | refine zE (by omega) (by omega) ?_ | refine zD (by omega) (by omega) ?_ | refine zY (by omega) ?_ | refine zN (by omega) ?_ | refine amin ?_ | refine amax ?_ | refine zU (by omega) ?_ | refine z8 (by omega) ?_ | refine zX (by omega) (by omega) ?_ | refine zR rfl ?_ | refine acellA ?_ | refine zB H b1 rfl ?_ | refine zC H b1 ?_ | refine zB H b2 rfl ?_ | refine zC H b2 ?_ | refine zB H b3 rfl ?_ | refine zC H b3 ?_ | refine zB H b4 rfl ?_ | refine zC H b4 ?_ | (apply zL H; (· repeat first | exact .h | apply AtK.t); (· rfl)) | (apply zA H; (· repeat first | exact .h | apply AtK.t)) | (apply zS H; (· repeat first | exact .h | apply AtK.t); (· rfl); (conv => whnf); clear H; intro τ H) | rw [List.length_map]); ((conv => whnf); (repeat ((first | with_reducible (first | refine zT rfl ?_ | refine zF rfl ?_ | refine zY rfl ?_) | refine zY (by decide) ?_ | refine zN (by decide) ?_ | with_reducible refine zQ ?_); (conv => whnf))))))
    replace H : Hp σb (.o ip (.cells (peC v1 is e ig fi)) :: .o is (.cells [spL tk l]) :: (E1 ++ ([.o ig (.map em), .o i6 (.cells [i64v p.off, i64v (p.off + (total p.fs : Int))]), .o i3 (.cells (amC p)), .o ib (.cells (buC im)), .o im (.map es)] ++ (E ++ G)))) τ :=
      Hp.mid (B := [.o ip (.cells (peC v1 is e ig fi)), .o is (.cells [spL tk l])]) (Hp.mid (A := [.o ip (.cells (peC v1 is e ig fi)), .o is (.cells [spL tk l]), .o ig (.map em), .o i6 (.cells [i64v p.off, i64v (p.off + (total p.fs : Int))]), .o i3 (.cells (amC p)), .o ib (.cells (buC im)), .o im (.map es)]) (B := E1) (C := E ++ G) H)
    refine acall (peFillA h1 H p.off.toNat p.off (by omega) p.fs.flatten hdn (by show p.off.toNat + p.fs.flatten.length ≤ _; omega) hD (by have := hs.k; omega)) ?_
    clear H h1
    rintro _ τ ⟨rfl, v2, E2, h2, H⟩
    replace H : Hp σb (.o ip (.cells (peC v2 is e ig fi)) :: .o is (.cells [spL tk l]) :: .o ig (.map em) :: .o i6 (.cells [i64v p.off, i64v (p.off + (total p.fs : Int))]) :: .o i3 (.cells (amC p)) :: .o ib (.cells (buC im)) :: .o im (.map es) :: (E2 ++ (E ++ G))) τ := Hp.mid2 (A := [.o ip (.cells (peC v2 is e ig fi)), .o is (.cells [spL tk l])]) (B := E2) (C := [.o ig (.map em), .o i6 (.cells [i64v p.off, i64v (p.off + (total p.fs : Int))]), .o i3 (.cells (amC p)), .o ib (.cells (buC im)), .o im (.map es)]) H
    ((conv => whnf); (repeat ((first | with_reducible (first | refine zT rfl ?_ | refine zF rfl ?_ | refine zY rfl ?_) | refine zY (by decide) ?_ | refine zN (by decide) ?_ | with_reducible refine zQ ?_); (conv => whnf))))
    (repeat ((first | refine zI (by omega) ?_ | refine zE (by omega) (by omega) ?_ | refine zD (by omega) (by omega) ?_ | refine zY (by omega) ?_ | refine zN (by omega) ?_ | refine amin ?_ | refine amax ?_ | refine zU (by omega) ?_ | refine z8 (by omega) ?_ | refine zX (by omega) (by omega) ?_ | refine zR rfl ?_ | refine acellA ?_ | refine zB H b1 rfl ?_ | refine zC H b1 ?_ | refine zB H b2 rfl ?_ | refine zC H b2 ?_ | refine zB H b3 rfl ?_ | refine zC H b3 ?_ | refine zB H b4 rfl ?_ | refine zC H b4 ?_ | (apply zL H; (· repeat first | exact .h | apply AtK.t); (· rfl)) | (apply zA H; (· repeat first | exact .h | apply AtK.t)) | (apply zS H; (· repeat first | exact .h | apply AtK.t); (· rfl); (conv => whnf); clear H; intro τ H) | rw [List.length_map]); ((conv => whnf); (repeat ((first | with_reducible (first | refine zT rfl ?_ | refine zF rfl ?_ | refine zY rfl ?_) | refine zY (by decide) ?_ | refine zN (by decide) ?_ | with_reducible refine zQ ?_); (conv => whnf))))))
    refine acall (sAdd (H.perm (.swap _ _ _)) (spanP p) (by have := hs.k; omega)) ?_
    clear H
    rintro _ τ ⟨rfl, u, H⟩
    replace H : Hp σb (.o is (.cells [spL u (addS (spanP p) l)]) :: .o ip (.cells (peC v2 is e ig fi)) :: .o ig (.map em) :: .o i6 (.cells [i64v p.off, i64v (p.off + (total p.fs : Int))]) :: .o i3 (.cells (amC p)) :: .o ib (.cells (buC im)) :: .o im (.map es) :: (E2 ++ (E ++ G))) τ := H
    ((conv => whnf); (repeat ((first | with_reducible (first | refine zT rfl ?_ | refine zF rfl ?_ | refine zY rfl ?_) | refine zY (by decide) ?_ | refine zN (by decide) ?_ | with_reducible refine zQ ?_); (conv => whnf))))
    by_cases ha : addC (spanP p) l = 0
    case neg =>
      rw [add_no ha] at H
      (repeat ((first | refine zI (by omega) ?_ | refine zE (by omega) (by omega) ?_ | refine zD (by omega) (by omega) ?_ | refine zY (by omega) ?_ | refine zN (by omega) ?_ | refine amin ?_ | refine amax ?_ | refine zU (by omega) ?_ | refine z8 (by omega) ?_ | refine zX (by omega) (by omega) ?_ | refine zR rfl ?_ | refine acellA ?_ | refine zB H b1 rfl ?_ | refine zC H b1 ?_ | refine zB H b2 rfl ?_ | refine zC H b2 ?_ | refine zB H b3 rfl ?_ | refine zC H b3 ?_ | refine zB H b4 rfl ?_ | refine zC H b4 ?_ | (apply zL H; (· repeat first | exact .h | apply AtK.t); (· rfl)) | (apply zA H; (· repeat first | exact .h | apply AtK.t)) | (apply zS H; (· repeat first | exact .h | apply AtK.t); (· rfl); (conv => whnf); clear H; intro τ H) | rw [List.length_map]); ((conv => whnf); (repeat ((first | with_reducible (first | refine zT rfl ?_ | refine zF rfl ?_ | refine zY rfl ?_) | refine zY (by decide) ?_ | refine zN (by decide) ?_ | with_reducible refine zQ ?_); (conv => whnf))))))
      rw [RB.cells1 h]
      ((conv => whnf); (repeat ((first | with_reducible (first | refine zT rfl ?_ | refine zF rfl ?_ | refine zY rfl ?_) | refine zY (by decide) ?_ | refine zN (by decide) ?_ | with_reducible refine zQ ?_); (conv => whnf))))
      apply zS H
      · repeat first | exact .h | apply AtK.t
      · show ((v : AVal).isCell && true) = true
        rw [RB.isCell h]; rfl
      (conv => whnf)
      clear H
      intro τ H
      ((conv => whnf); (repeat ((first | with_reducible (first | refine zT rfl ?_ | refine zF rfl ?_ | refine zY rfl ?_) | refine zY (by decide) ?_ | refine zN (by decide) ?_ | with_reducible refine zQ ?_); (conv => whnf))))
      have H := Hp.rest (A := E2) (Hp.mid (A := [.o is (.cells [spL u l]), .o ip (.cells (peC v is e ig fi)), .o ig (.map em), .o i6 (.cells [i64v p.off, i64v (p.off + (total p.fs : Int))]), .o i3 (.cells (amC p)), .o ib (.cells (buC im)), .o im (.map es)]) (B := E2) H)
      (repeat ((first | refine zI (by omega) ?_ | refine zE (by omega) (by omega) ?_ | refine zD (by omega) (by omega) ?_ | refine zY (by omega) ?_ | refine zN (by omega) ?_ | refine amin ?_ | refine amax ?_ | refine zU (by omega) ?_ | refine z8 (by omega) ?_ | refine zX (by omega) (by omega) ?_ | refine zR rfl ?_ | refine acellA ?_ | refine zB H b1 rfl ?_ | refine zC H b1 ?_ | refine zB H b2 rfl ?_ | refine zC H b2 ?_ | refine zB H b3 rfl ?_ | refine zC H b3 ?_ | refine zB H b4 rfl ?_ | refine zC H b4 ?_ | (apply zL H; (· repeat first | exact .h | apply AtK.t); (· rfl)) | (apply zA H; (· repeat first | exact .h | apply AtK.t)) | (apply zS H; (· repeat first | exact .h | apply AtK.t); (· rfl); (conv => whnf); clear H; intro τ H) | rw [List.length_map]); ((conv => whnf); (repeat ((first | with_reducible (first | refine zT rfl ?_ | refine zF rfl ?_ | refine zY rfl ?_) | refine zY (by decide) ?_ | refine zN (by decide) ?_ | with_reducible refine zQ ?_); (conv => whnf))))))
      exact aret (VLe.refl _) (Sub.refl _) ⟨by rw [hk], .inl ⟨by rw [hk]; exact ha, ⟨u, Hp.rest (A := [.o i6 (.cells [i64v p.off, i64v (p.off + (total p.fs : Int))]), .o i3 (.cells (amC p))]) (Hp.mid (A := [.o ip (.cells (peC v is e ig fi)), .o is (.cells [spL u l]), .o ig (.map em)]) (B := [.o i6 (.cells [i64v p.off, i64v (p.off + (total p.fs : Int))]), .o i3 (.cells (amC p))]) (C := .o ib (.cells (buC im)) :: .o im (.map es) :: (E ++ G)) (H.perm (.swap _ _ _)))⟩⟩⟩
    rw [ha]
    ((conv => whnf); (repeat ((first | with_reducible (first | refine zT rfl ?_ | refine zF rfl ?_ | refine zY rfl ?_) | refine zY (by decide) ?_ | refine zN (by decide) ?_ | with_reducible refine zQ ?_); (conv => whnf))))
    (repeat ((first | refine zI (by omega) ?_ | refine zE (by omega) (by omega) ?_ | refine zD (by omega) (by omega) ?_ | refine zY (by omega) ?_ | refine zN (by omega) ?_ | refine amin ?_ | refine amax ?_ | refine zU (by omega) ?_ | refine z8 (by omega) ?_ | refine zX (by omega) (by omega) ?_ | refine zR rfl ?_ | refine acellA ?_ | refine zB H b1 rfl ?_ | refine zC H b1 ?_ | refine zB H b2 rfl ?_ | refine zC H b2 ?_ | refine zB H b3 rfl ?_ | refine zC H b3 ?_ | refine zB H b4 rfl ?_ | refine zC H b4 ?_ | (apply zL H; (· repeat first | exact .h | apply AtK.t); (· rfl)) | (apply zA H; (· repeat first | exact .h | apply AtK.t)) | (apply zS H; (· repeat first | exact .h | apply AtK.t); (· rfl); (conv => whnf); clear H; intro τ H) | rw [List.length_map]); ((conv => whnf); (repeat ((first | with_reducible (first | refine zT rfl ?_ | refine zF rfl ?_ | refine zY rfl ?_) | refine zY (by decide) ?_ | refine zN (by decide) ?_ | with_reducible refine zQ ?_); (conv => whnf))))))
    replace H : Hp σb (.o ip (.cells (peC v2 is e ig fi)) :: .o ig (.map em) :: .o is (.cells [spL u (addS (spanP p) l)]) :: (.o i6 (.cells [i64v p.off, i64v (p.off + (total p.fs : Int))]) :: .o i3 (.cells (amC p)) :: .o ib (.cells (buC im)) :: .o im (.map es) :: (E2 ++ (E ++ G)))) τ := H.perm (.trans (.swap _ _ _) (.cons _ (.swap _ _ _)))
    refine acall (peNote H h2.isCell p true (by omega) (by omega) (by omega)) ?_
    clear H
    rintro _ τ ⟨rfl, H⟩
    ((conv => whnf); (repeat ((first | with_reducible (first | refine zT rfl ?_ | refine zF rfl ?_ | refine zY rfl ?_) | refine zY (by decide) ?_ | refine zN (by decide) ?_ | with_reducible refine zQ ?_); (conv => whnf))))
    (repeat ((first | refine zI (by omega) ?_ | refine zE (by omega) (by omega) ?_ | refine zD (by omega) (by omega) ?_ | refine zY (by omega) ?_ | refine zN (by omega) ?_ | refine amin ?_ | refine amax ?_ | refine zU (by omega) ?_ | refine z8 (by omega) ?_ | refine zX (by omega) (by omega) ?_ | refine zR rfl ?_ | refine acellA ?_ | refine zB H b1 rfl ?_ | refine zC H b1 ?_ | refine zB H b2 rfl ?_ | refine zC H b2 ?_ | refine zB H b3 rfl ?_ | refine zC H b3 ?_ | refine zB H b4 rfl ?_ | refine zC H b4 ?_ | (apply zL H; (· repeat first | exact .h | apply AtK.t); (· rfl)) | (apply zA H; (· repeat first | exact .h | apply AtK.t)) | (apply zS H; (· repeat first | exact .h | apply AtK.t); (· rfl); (conv => whnf); clear H; intro τ H) | rw [List.length_map]); ((conv => whnf); (repeat ((first | with_reducible (first | refine zT rfl ?_ | refine zF rfl ?_ | refine zY rfl ?_) | refine zY (by decide) ?_ | refine zN (by decide) ?_ | with_reducible refine zQ ?_); (conv => whnf))))))
    apply zMs H
    · (repeat first | exact .h | apply AtK.t)
    · rfl
    (conv => whnf)
    clear H
    intro τ H
    ((conv => whnf); (repeat ((first | with_reducible (first | refine zT rfl ?_ | refine zF rfl ?_ | refine zY rfl ?_) | refine zY (by decide) ?_ | refine zN (by decide) ?_ | with_reducible refine zQ ?_); (conv => whnf))))
    rw [mapSet_same he] at H
    (repeat ((first | refine zI (by omega) ?_ | refine zE (by omega) (by omega) ?_ | refine zD (by omega) (by omega) ?_ | refine zY (by omega) ?_ | refine zN (by omega) ?_ | refine amin ?_ | refine amax ?_ | refine zU (by omega) ?_ | refine z8 (by omega) ?_ | refine zX (by omega) (by omega) ?_ | refine zR rfl ?_ | refine acellA ?_ | refine zB H b1 rfl ?_ | refine zC H b1 ?_ | refine zB H b2 rfl ?_ | refine zC H b2 ?_ | refine zB H b3 rfl ?_ | refine zC H b3 ?_ | refine zB H b4 rfl ?_ | refine zC H b4 ?_ | (apply zL H; (· repeat first | exact .h | apply AtK.t); (· rfl)) | (apply zA H; (· repeat first | exact .h | apply AtK.t)) | (apply zS H; (· repeat first | exact .h | apply AtK.t); (· rfl); (conv => whnf); clear H; intro τ H) | rw [List.length_map]); ((conv => whnf); (repeat ((first | with_reducible (first | refine zT rfl ?_ | refine zF rfl ?_ | refine zY rfl ?_) | refine zY (by decide) ?_ | refine zN (by decide) ?_ | with_reducible refine zQ ?_); (conv => whnf))))))
    rw [hen]
    exact aret (VLe.refl _) (Sub.refl _) ⟨by rw [hk, ha], .inr ⟨by rw [hk, ha], ⟨v2, E2, u, h2, (Hp.rest (A := E) (Hp.mid (A := .o ip (.cells (peC v2 is (noteE p true e) ig (noteF p true fi))) :: .o ig (.map (noteM p true em)) :: .o is (.cells [spL u (addS (spanP p) l)]) :: .o ib (.cells (buC im)) :: .o im (.map es) :: E2) (B := E) (C := G) (Hp.rest (A := [.o i6 (.cells [i64v p.off, i64v (p.off + (total p.fs : Int))]), .o i3 (.cells (amC p))]) (Hp.mid (A := [.o ip (.cells (peC v2 is (noteE p true e) ig (noteF p true fi))), .o ig (.map (noteM p true em)), .o is (.cells [spL u (addS (spanP p) l)])]) (B := [.o i6 (.cells [i64v p.off, i64v (p.off + (total p.fs : Int))]), .o i3 (.cells (amC p))]) (C := .o ib (.cells (buC im)) :: .o im (.map es) :: (E2 ++ (E ++ G))) H)))).perm (.cons _ (.swap _ _ _))⟩⟩⟩
  · have hen : endsB p = p.last := by unfold endsB; rw [hp]; rfl
    refine abr_false (show (!p.part) = false by rw [hp]; rfl) ?_
    ((conv => whnf); (repeat ((first | with_reducible (first | refine zT rfl ?_ | refine zF rfl ?_ | refine zY rfl ?_) | refine zY (by decide) ?_ | refine zN (by decide) ?_ | with_reducible refine zQ ?_); (conv => whnf))))
    (repeat ((first | refine zI (by omega) ?_ | refine zE (by omega) (by omega) ?_ | refine zD (by omega) (by omega) ?_ | refine zY (by omega) ?_ | refine zN (by omega) ?_ | refine amin ?_ | refine amax ?_ | refine zU (by omega) ?_ | refine z8 (by omega) ?_ | refine zX (by omega) (by omega) ?_ | refine zR rfl ?_ | refine acellA ?_ | refine zB H b1 rfl ?_ | refine zC H b1 ?_ | refine zB H b2 rfl ?_ | refine zC H b2 ?_ | refine zB H b3 rfl ?_ | refine zC H b3 ?_ | refine zB H b4 rfl ?_ | refine zC H b4 ?_ | (apply zL H; (· repeat first | exact .h | apply AtK.t); (· rfl)) | (apply zA H; (· repeat first | exact .h | apply AtK.t)) | (apply zS H; (· repeat first | exact .h | apply AtK.t); (· rfl); (conv => whnf); clear H; intro τ H) | rw [List.length_map]); ((conv => whnf); (repeat ((first | with_reducible (first | refine zT rfl ?_ | refine zF rfl ?_ | refine zY rfl ?_) | refine zY (by decide) ?_ | refine zN (by decide) ?_ | with_reducible refine zQ ?_); (conv => whnf))))))
    refine hlook H (k := 6) rfl ?_
    rw [he, Option.map_some, Option.getD_some]
    ((conv => whnf); (repeat ((first | with_reducible (first | refine zT rfl ?_ | refine zF rfl ?_ | refine zY rfl ?_) | refine zY (by decide) ?_ | refine zN (by decide) ?_ | with_reducible refine zQ ?_); (conv => whnf))))
    (repeat ((first | refine zI (by omega) ?_ | refine zE (by omega) (by omega) ?_ | refine zD (by omega) (by omega) ?_ | refine zY (by omega) ?_ | refine zN (by omega) ?_ | refine amin ?_ | refine amax ?_ | refine zU (by omega) ?_ | refine z8 (by omega) ?_ | refine zX (by omega) (by omega) ?_ | refine zR rfl ?_ | refine acellA ?_ | refine zB H b1 rfl ?_ | refine zC H b1 ?_ | refine zB H b2 rfl ?_ | refine zC H b2 ?_ | refine zB H b3 rfl ?_ | refine zC H b3 ?_ | refine zB H b4 rfl ?_ | refine zC H b4 ?_ | (apply zL H; (· repeat first | exact .h | apply AtK.t); (· rfl)) | (apply zA H; (· repeat first | exact .h | apply AtK.t)) | (apply zS H; (· repeat first | exact .h | apply AtK.t); (· rfl); (conv => whnf); clear H; intro τ H) | rw [List.length_map]); ((conv => whnf); (repeat ((first | with_reducible (first | refine zT rfl ?_ | refine zF rfl ?_ | refine zY rfl ?_) | refine zY (by decide) ?_ | refine zN (by decide) ?_ | with_reducible refine zQ ?_); (conv => whnf))))))
    replace H := Hp.mid (A := [.o i6 (.cells [i64v p.off, i64v (p.off + (total p.fs : Int))]), .o i3 (.cells (amC p))]) (B := [.o ip (.cells (peC v is e ig fi)), .o is (.cells [spL tk l]), .o ig (.map em)]) (C := .o ib (.cells (buC im)) :: .o im (.map es) :: (E ++ G)) H
    replace H : Hp σb (.o ip (.cells (peC v is e ig fi)) :: .o is (.cells [spL tk l]) :: .o ig (.map em) :: .o i6 (.cells [i64v p.off, i64v (p.off + (total p.fs : Int))]) :: .o i3 (.cells (amC p)) :: .o ib (.cells (buC im)) :: .o im (.map es) :: (E ++ G)) τ := H
    refine acall (peFits (H.get (k := 0) rfl) (H.get (k := 1) rfl) (by have := hs.k; omega) (spanP p) p.last) ?_
    rintro _ σ_ ⟨rfl, e_⟩
    obtain rfl := e_.symm
    refine ⟨?_, Ext.refl _⟩
    ((conv => whnf); (repeat ((first | with_reducible (first | refine zT rfl ?_ | refine zF rfl ?_ | refine zY rfl ?_) | refine zY (by decide) ?_ | refine zN (by decide) ?_ | with_reducible refine zQ ?_); (conv => whnf))))
    have hk : putK p l e = if fitsC l e (spanP p) p.last ≠ 0 then fitsC l e (spanP p) p.last else addC (spanP p) l := by unfold putK; rw [if_neg (by rw [hr]; simp), hen]
    by_cases hc : fitsC l e (spanP p) p.last = 0
    case neg =>
      rw [if_pos hc] at hk
      (repeat ((first | refine zI (by omega) ?_ | refine zE (by omega) (by omega) ?_ | refine zD (by omega) (by omega) ?_ | refine zY (by omega) ?_ | refine zN (by omega) ?_ | refine amin ?_ | refine amax ?_ | refine zU (by omega) ?_ | refine z8 (by omega) ?_ | refine zX (by omega) (by omega) ?_ | refine zR rfl ?_ | refine acellA ?_ | refine zB H b1 rfl ?_ | refine zC H b1 ?_ | refine zB H b2 rfl ?_ | refine zC H b2 ?_ | refine zB H b3 rfl ?_ | refine zC H b3 ?_ | refine zB H b4 rfl ?_ | refine zC H b4 ?_ | (apply zL H; (· repeat first | exact .h | apply AtK.t); (· rfl)) | (apply zA H; (· repeat first | exact .h | apply AtK.t)) | (apply zS H; (· repeat first | exact .h | apply AtK.t); (· rfl); (conv => whnf); clear H; intro τ H) | rw [List.length_map]); ((conv => whnf); (repeat ((first | with_reducible (first | refine zT rfl ?_ | refine zF rfl ?_ | refine zY rfl ?_) | refine zY (by decide) ?_ | refine zN (by decide) ?_ | with_reducible refine zQ ?_); (conv => whnf))))))
      exact aret (VLe.refl _) (Sub.refl _) ⟨by rw [hk], .inl ⟨by rw [hk]; exact hc, ⟨tk, Hp.rest (A := [.o i6 (.cells [i64v p.off, i64v (p.off + (total p.fs : Int))]), .o i3 (.cells (amC p))]) (Hp.mid (A := [.o ip (.cells (peC v is e ig fi)), .o is (.cells [spL tk l]), .o ig (.map em)]) (B := [.o i6 (.cells [i64v p.off, i64v (p.off + (total p.fs : Int))]), .o i3 (.cells (amC p))]) (C := .o ib (.cells (buC im)) :: .o im (.map es) :: (E ++ G)) H)⟩⟩⟩
    rw [if_neg (by rw [hc]; simp)] at hk
    rw [hc]
    ((conv => whnf); (repeat ((first | with_reducible (first | refine zT rfl ?_ | refine zF rfl ?_ | refine zY rfl ?_) | refine zY (by decide) ?_ | refine zN (by decide) ?_ | with_reducible refine zQ ?_); (conv => whnf))))
    (repeat ((first | refine zI (by omega) ?_ | refine zE (by omega) (by omega) ?_ | refine zD (by omega) (by omega) ?_ | refine zY (by omega) ?_ | refine zN (by omega) ?_ | refine amin ?_ | refine amax ?_ | refine zU (by omega) ?_ | refine z8 (by omega) ?_ | refine zX (by omega) (by omega) ?_ | refine zR rfl ?_ | refine acellA ?_ | refine zB H b1 rfl ?_ | refine zC H b1 ?_ | refine zB H b2 rfl ?_ | refine zC H b2 ?_ | refine zB H b3 rfl ?_ | refine zC H b3 ?_ | refine zB H b4 rfl ?_ | refine zC H b4 ?_ | (apply zL H; (· repeat first | exact .h | apply AtK.t); (· rfl)) | (apply zA H; (· repeat first | exact .h | apply AtK.t)) | (apply zS H; (· repeat first | exact .h | apply AtK.t); (· rfl); (conv => whnf); clear H; intro τ H) | rw [List.length_map]); ((conv => whnf); (repeat ((first | with_reducible (first | refine zT rfl ?_ | refine zF rfl ?_ | refine zY rfl ?_) | refine zY (by decide) ?_ | refine zN (by decide) ?_ | with_reducible refine zQ ?_); (conv => whnf))))))
    refine acall (cloneB (RB.dv (F := [.o ip (.cells (peC v is e ig fi)), .o is (.cells [spL tk l]), .o ig (.map em), .o i6 (.cells [i64v p.off, i64v (p.off + (total p.fs : Int))]), .o i3 (.cells (amC p)), .o ib (.cells (buC im)), .o im (.map es)]) h H) (by omega)) ?_
    rintro v1 υ ⟨E1, h1, N⟩
    refine ⟨?_, N.ext⟩
    replace H := Hp.mid (A := E1) (B := [.o ip (.cells (peC v is e ig fi)), .o is (.cells [spL tk l]), .o ig (.map em), .o i6 (.cells [i64v p.off, i64v (p.off + (total p.fs : Int))]), .o i3 (.cells (amC p)), .o ib (.cells (buC im)), .o im (.map es)]) (C := E ++ G) (H.join N)
    replace H : Hp σb (.o ip (.cells (peC v is e ig fi)) :: .o is (.cells [spL tk l]) :: .o ig (.map em) :: .o i6 (.cells [i64v p.off, i64v (p.off + (total p.fs : Int))]) :: .o i3 (.cells (amC p)) :: .o ib (.cells (buC im)) :: .o im (.map es) :: (E1 ++ (E ++ G))) υ := H
    clear N
    ((conv => whnf); (repeat ((first | with_reducible (first | refine zT rfl ?_ | refine zF rfl ?_ | refine zY rfl ?_) | refine zY (by decide) ?_ | refine zN (by decide) ?_ | with_reducible refine zQ ?_); (conv => whnf))))
    (repeat ((first | refine zI (by omega) ?_ | refine zE (by omega) (by omega) ?_ | refine zD (by omega) (by omega) ?_ | refine zY (by omega) ?_ | refine zN (by omega) ?_ | refine amin ?_ | refine amax ?_ | refine zU (by omega) ?_ | refine z8 (by omega) ?_ | refine zX (by omega) (by omega) ?_ | refine zR rfl ?_ | refine acellA ?_ | refine zB H b1 rfl ?_ | refine zC H b1 ?_ | refine zB H b2 rfl ?_ | refine zC H b2 ?_ | refine zB H b3 rfl ?_ | refine zC H b3 ?_ | refine zB H b4 rfl ?_ | refine zC H b4 ?_ | (apply zL H; (· repeat first | exact .h | apply AtK.t); (· rfl)) | (apply zA H; (· repeat first | exact .h | apply AtK.t)) | (apply zS H; (· repeat first | exact .h | apply AtK.t); (· rfl); (conv => whnf); clear H; intro τ H) | rw [List.length_map]); ((conv => whnf); (repeat ((first | with_reducible (first | refine zT rfl ?_ | refine zF rfl ?_ | refine zY rfl ?_) | refine zY (by decide) ?_ | refine zN (by decide) ?_ | with_reducible refine zQ ?_); (conv => whnf))))))
    rw [h1.cells1]
    ((conv => whnf); (repeat ((first | with_reducible (first | refine zT rfl ?_ | refine zF rfl ?_ | refine zY rfl ?_) | refine zY (by decide) ?_ | refine zN (by decide) ?_ | with_reducible refine zQ ?_); (conv => whnf))))
    apply zS H
    · exact .h
    · show (v1.isCell && true) = true
      rw [h1.isCell]; rfl
    (conv => whnf)
    clear H
    intro τ H
    ((conv => whnf); (repeat ((first | with_reducible (first | refine zT rfl ?_ | refine zF rfl ?_ | refine zY rfl ?_) | refine zY (by decide) ?_ | refine zN (by decide) ?_ | with_reducible refine zQ ?_); (conv => whnf))))
    (repeat ((first | refine zI (by omega) ?_ | refine zE (by omega) (by omega) ?_ | refine zD (by omega) (by omega) ?_ | refine zY (by omega) ?_ | refine zN (by omega) ?_ | refine amin ?_ | refine amax ?_ | refine zU (by omega) ?_ | refine z8 (by omega) ?_ | refine zX (by omega) (by omega) ?_ | refine zR rfl ?_ | refine acellA ?_ | refine zB H b1 rfl ?_ | refine zC H b1 ?_ | refine zB H b2 rfl ?_ | refine zC H b2 ?_ | refine zB H b3 rfl ?_ | refine zC H b3 ?_ | refine zB H b4 rfl ?_ | refine zC H b4 ?_ | (apply zL H; (· repeat first | exact .h | apply AtK.t); (· rfl)) | (apply zA H; (· repeat first | exact .h | apply AtK.t)) | (apply zS H; (· repeat first | exact .h | apply AtK.t); (· rfl); (conv => whnf); clear H; intro τ H) | rw [List.length_map]); ((conv => whnf); (repeat ((first | with_reducible (first | refine zT rfl ?_ | refine zF rfl ?_ | refine zY rfl ?_) | refine zY (by decide) ?_ | refine zN (by decide) ?_ | with_reducible refine zQ ?_); (conv => whnf))))))
    replace H : Hp σb (.o ip (.cells (peC v1 is e ig fi)) :: .o is (.cells [spL tk l]) :: (E1 ++ ([.o ig (.map em), .o i6 (.cells [i64v p.off, i64v (p.off + (total p.fs : Int))]), .o i3 (.cells (amC p)), .o ib (.cells (buC im)), .o im (.map es)] ++ (E ++ G)))) τ :=
      Hp.mid (B := [.o ip (.cells (peC v1 is e ig fi)), .o is (.cells [spL tk l])]) (Hp.mid (A := [.o ip (.cells (peC v1 is e ig fi)), .o is (.cells [spL tk l]), .o ig (.map em), .o i6 (.cells [i64v p.off, i64v (p.off + (total p.fs : Int))]), .o i3 (.cells (amC p)), .o ib (.cells (buC im)), .o im (.map es)]) (B := E1) (C := E ++ G) H)
    refine acall (peFillA h1 H p.off.toNat p.off (by omega) p.fs.flatten hdn (by show p.off.toNat + p.fs.flatten.length ≤ _; omega) hD (by have := hs.k; omega)) ?_
    clear H h1
    rintro _ τ ⟨rfl, v2, E2, h2, H⟩
    replace H : Hp σb (.o ip (.cells (peC v2 is e ig fi)) :: .o is (.cells [spL tk l]) :: .o ig (.map em) :: .o i6 (.cells [i64v p.off, i64v (p.off + (total p.fs : Int))]) :: .o i3 (.cells (amC p)) :: .o ib (.cells (buC im)) :: .o im (.map es) :: (E2 ++ (E ++ G))) τ := Hp.mid2 (A := [.o ip (.cells (peC v2 is e ig fi)), .o is (.cells [spL tk l])]) (B := E2) (C := [.o ig (.map em), .o i6 (.cells [i64v p.off, i64v (p.off + (total p.fs : Int))]), .o i3 (.cells (amC p)), .o ib (.cells (buC im)), .o im (.map es)]) H
    ((conv => whnf); (repeat ((first | with_reducible (first | refine zT rfl ?_ | refine zF rfl ?_ | refine zY rfl ?_) | refine zY (by decide) ?_ | refine zN (by decide) ?_ | with_reducible refine zQ ?_); (conv => whnf))))
    (repeat ((first | refine zI (by omega) ?_ | refine zE (by omega) (by omega) ?_ | refine zD (by omega) (by omega) ?_ | refine zY (by omega) ?_ | refine zN (by omega) ?_ | refine amin ?_ | refine amax ?_ | refine zU (by omega) ?_ | refine z8 (by omega) ?_ | refine zX (by omega) (by omega) ?_ | refine zR rfl ?_ | refine acellA ?_ | refine zB H b1 rfl ?_ | refine zC H b1 ?_ | refine zB H b2 rfl ?_ | refine zC H b2 ?_ | refine zB H b3 rfl ?_ | refine zC H b3 ?_ | refine zB H b4 rfl ?_ | refine zC H b4 ?_ | (apply zL H; (· repeat first | exact .h | apply AtK.t); (· rfl)) | (apply zA H; (· repeat first | exact .h | apply AtK.t)) | (apply zS H; (· repeat first | exact .h | apply AtK.t); (· rfl); (conv => whnf); clear H; intro τ H) | rw [List.length_map]); ((conv => whnf); (repeat ((first | with_reducible (first | refine zT rfl ?_ | refine zF rfl ?_ | refine zY rfl ?_) | refine zY (by decide) ?_ | refine zN (by decide) ?_ | with_reducible refine zQ ?_); (conv => whnf))))))
    refine acall (sAdd (H.perm (.swap _ _ _)) (spanP p) (by have := hs.k; omega)) ?_
    clear H
    rintro _ τ ⟨rfl, u, H⟩
    replace H : Hp σb (.o is (.cells [spL u (addS (spanP p) l)]) :: .o ip (.cells (peC v2 is e ig fi)) :: .o ig (.map em) :: .o i6 (.cells [i64v p.off, i64v (p.off + (total p.fs : Int))]) :: .o i3 (.cells (amC p)) :: .o ib (.cells (buC im)) :: .o im (.map es) :: (E2 ++ (E ++ G))) τ := H
    ((conv => whnf); (repeat ((first | with_reducible (first | refine zT rfl ?_ | refine zF rfl ?_ | refine zY rfl ?_) | refine zY (by decide) ?_ | refine zN (by decide) ?_ | with_reducible refine zQ ?_); (conv => whnf))))
    by_cases ha : addC (spanP p) l = 0
    case neg =>
      rw [add_no ha] at H
      (repeat ((first | refine zI (by omega) ?_ | refine zE (by omega) (by omega) ?_ | refine zD (by omega) (by omega) ?_ | refine zY (by omega) ?_ | refine zN (by omega) ?_ | refine amin ?_ | refine amax ?_ | refine zU (by omega) ?_ | refine z8 (by omega) ?_ | refine zX (by omega) (by omega) ?_ | refine zR rfl ?_ | refine acellA ?_ | refine zB H b1 rfl ?_ | refine zC H b1 ?_ | refine zB H b2 rfl ?_ | refine zC H b2 ?_ | refine zB H b3 rfl ?_ | refine zC H b3 ?_ | refine zB H b4 rfl ?_ | refine zC H b4 ?_ | (apply zL H; (· repeat first | exact .h | apply AtK.t); (· rfl)) | (apply zA H; (· repeat first | exact .h | apply AtK.t)) | (apply zS H; (· repeat first | exact .h | apply AtK.t); (· rfl); (conv => whnf); clear H; intro τ H) | rw [List.length_map]); ((conv => whnf); (repeat ((first | with_reducible (first | refine zT rfl ?_ | refine zF rfl ?_ | refine zY rfl ?_) | refine zY (by decide) ?_ | refine zN (by decide) ?_ | with_reducible refine zQ ?_); (conv => whnf))))))
      rw [RB.cells1 h]
      ((conv => whnf); (repeat ((first | with_reducible (first | refine zT rfl ?_ | refine zF rfl ?_ | refine zY rfl ?_) | refine zY (by decide) ?_ | refine zN (by decide) ?_ | with_reducible refine zQ ?_); (conv => whnf))))
      apply zS H
      · repeat first | exact .h | apply AtK.t
      · show ((v : AVal).isCell && true) = true
        rw [RB.isCell h]; rfl
      (conv => whnf)
      clear H
      intro τ H
      ((conv => whnf); (repeat ((first | with_reducible (first | refine zT rfl ?_ | refine zF rfl ?_ | refine zY rfl ?_) | refine zY (by decide) ?_ | refine zN (by decide) ?_ | with_reducible refine zQ ?_); (conv => whnf))))
      have H := Hp.rest (A := E2) (Hp.mid (A := [.o is (.cells [spL u l]), .o ip (.cells (peC v is e ig fi)), .o ig (.map em), .o i6 (.cells [i64v p.off, i64v (p.off + (total p.fs : Int))]), .o i3 (.cells (amC p)), .o ib (.cells (buC im)), .o im (.map es)]) (B := E2) H)
      (repeat ((first | refine zI (by omega) ?_ | refine zE (by omega) (by omega) ?_ | refine zD (by omega) (by omega) ?_ | refine zY (by omega) ?_ | refine zN (by omega) ?_ | refine amin ?_ | refine amax ?_ | refine zU (by omega) ?_ | refine z8 (by omega) ?_ | refine zX (by omega) (by omega) ?_ | refine zR rfl ?_ | refine acellA ?_ | refine zB H b1 rfl ?_ | refine zC H b1 ?_ | refine zB H b2 rfl ?_ | refine zC H b2 ?_ | refine zB H b3 rfl ?_ | refine zC H b3 ?_ | refine zB H b4 rfl ?_ | refine zC H b4 ?_ | (apply zL H; (· repeat first | exact .h | apply AtK.t); (· rfl)) | (apply zA H; (· repeat first | exact .h | apply AtK.t)) | (apply zS H; (· repeat first | exact .h | apply AtK.t); (· rfl); (conv => whnf); clear H; intro τ H) | rw [List.length_map]); ((conv => whnf); (repeat ((first | with_reducible (first | refine zT rfl ?_ | refine zF rfl ?_ | refine zY rfl ?_) | refine zY (by decide) ?_ | refine zN (by decide) ?_ | with_reducible refine zQ ?_); (conv => whnf))))))
      exact aret (VLe.refl _) (Sub.refl _) ⟨by rw [hk], .inl ⟨by rw [hk]; exact ha, ⟨u, Hp.rest (A := [.o i6 (.cells [i64v p.off, i64v (p.off + (total p.fs : Int))]), .o i3 (.cells (amC p))]) (Hp.mid (A := [.o ip (.cells (peC v is e ig fi)), .o is (.cells [spL u l]), .o ig (.map em)]) (B := [.o i6 (.cells [i64v p.off, i64v (p.off + (total p.fs : Int))]), .o i3 (.cells (amC p))]) (C := .o ib (.cells (buC im)) :: .o im (.map es) :: (E ++ G)) (H.perm (.swap _ _ _)))⟩⟩⟩
    rw [ha]
    ((conv => whnf); (repeat ((first | with_reducible (first | refine zT rfl ?_ | refine zF rfl ?_ | refine zY rfl ?_) | refine zY (by decide) ?_ | refine zN (by decide) ?_ | with_reducible refine zQ ?_); (conv => whnf))))
    (repeat ((first | refine zI (by omega) ?_ | refine zE (by omega) (by omega) ?_ | refine zD (by omega) (by omega) ?_ | refine zY (by omega) ?_ | refine zN (by omega) ?_ | refine amin ?_ | refine amax ?_ | refine zU (by omega) ?_ | refine z8 (by omega) ?_ | refine zX (by omega) (by omega) ?_ | refine zR rfl ?_ | refine acellA ?_ | refine zB H b1 rfl ?_ | refine zC H b1 ?_ | refine zB H b2 rfl ?_ | refine zC H b2 ?_ | refine zB H b3 rfl ?_ | refine zC H b3 ?_ | refine zB H b4 rfl ?_ | refine zC H b4 ?_ | (apply zL H; (· repeat first | exact .h | apply AtK.t); (· rfl)) | (apply zA H; (· repeat first | exact .h | apply AtK.t)) | (apply zS H; (· repeat first | exact .h | apply AtK.t); (· rfl); (conv => whnf); clear H; intro τ H) | rw [List.length_map]); ((conv => whnf); (repeat ((first | with_reducible (first | refine zT rfl ?_ | refine zF rfl ?_ | refine zY rfl ?_) | refine zY (by decide) ?_ | refine zN (by decide) ?_ | with_reducible refine zQ ?_); (conv => whnf))))))
    replace H : Hp σb (.o ip (.cells (peC v2 is e ig fi)) :: .o ig (.map em) :: .o is (.cells [spL u (addS (spanP p) l)]) :: (.o i6 (.cells [i64v p.off, i64v (p.off + (total p.fs : Int))]) :: .o i3 (.cells (amC p)) :: .o ib (.cells (buC im)) :: .o im (.map es) :: (E2 ++ (E ++ G)))) τ := H.perm (.trans (.swap _ _ _) (.cons _ (.swap _ _ _)))
    refine acall (peNote H h2.isCell p p.last (by omega) (by omega) (by omega)) ?_
    clear H
    rintro _ τ ⟨rfl, H⟩
    ((conv => whnf); (repeat ((first | with_reducible (first | refine zT rfl ?_ | refine zF rfl ?_ | refine zY rfl ?_) | refine zY (by decide) ?_ | refine zN (by decide) ?_ | with_reducible refine zQ ?_); (conv => whnf))))
    (repeat ((first | refine zI (by omega) ?_ | refine zE (by omega) (by omega) ?_ | refine zD (by omega) (by omega) ?_ | refine zY (by omega) ?_ | refine zN (by omega) ?_ | refine amin ?_ | refine amax ?_ | refine zU (by omega) ?_ | refine z8 (by omega) ?_ | refine zX (by omega) (by omega) ?_ | refine zR rfl ?_ | refine acellA ?_ | refine zB H b1 rfl ?_ | refine zC H b1 ?_ | refine zB H b2 rfl ?_ | refine zC H b2 ?_ | refine zB H b3 rfl ?_ | refine zC H b3 ?_ | refine zB H b4 rfl ?_ | refine zC H b4 ?_ | (apply zL H; (· repeat first | exact .h | apply AtK.t); (· rfl)) | (apply zA H; (· repeat first | exact .h | apply AtK.t)) | (apply zS H; (· repeat first | exact .h | apply AtK.t); (· rfl); (conv => whnf); clear H; intro τ H) | rw [List.length_map]); ((conv => whnf); (repeat ((first | with_reducible (first | refine zT rfl ?_ | refine zF rfl ?_ | refine zY rfl ?_) | refine zY (by decide) ?_ | refine zN (by decide) ?_ | with_reducible refine zQ ?_); (conv => whnf))))))
    apply zMs H
    · (repeat first | exact .h | apply AtK.t)
    · rfl
    (conv => whnf)
    clear H
    intro τ H
    ((conv => whnf); (repeat ((first | with_reducible (first | refine zT rfl ?_ | refine zF rfl ?_ | refine zY rfl ?_) | refine zY (by decide) ?_ | refine zN (by decide) ?_ | with_reducible refine zQ ?_); (conv => whnf))))
    rw [mapSet_same he] at H
    (repeat ((first | refine zI (by omega) ?_ | refine zE (by omega) (by omega) ?_ | refine zD (by omega) (by omega) ?_ | refine zY (by omega) ?_ | refine zN (by omega) ?_ | refine amin ?_ | refine amax ?_ | refine zU (by omega) ?_ | refine z8 (by omega) ?_ | refine zX (by omega) (by omega) ?_ | refine zR rfl ?_ | refine acellA ?_ | refine zB H b1 rfl ?_ | refine zC H b1 ?_ | refine zB H b2 rfl ?_ | refine zC H b2 ?_ | refine zB H b3 rfl ?_ | refine zC H b3 ?_ | refine zB H b4 rfl ?_ | refine zC H b4 ?_ | (apply zL H; (· repeat first | exact .h | apply AtK.t); (· rfl)) | (apply zA H; (· repeat first | exact .h | apply AtK.t)) | (apply zS H; (· repeat first | exact .h | apply AtK.t); (· rfl); (conv => whnf); clear H; intro τ H) | rw [List.length_map]); ((conv => whnf); (repeat ((first | with_reducible (first | refine zT rfl ?_ | refine zF rfl ?_ | refine zY rfl ?_) | refine zY (by decide) ?_ | refine zN (by decide) ?_ | with_reducible refine zQ ?_); (conv => whnf))))))
    rw [hen]
    exact aret (VLe.refl _) (Sub.refl _) ⟨by rw [hk, ha], .inr ⟨by rw [hk, ha], ⟨v2, E2, u, h2, (Hp.rest (A := E) (Hp.mid (A := .o ip (.cells (peC v2 is (noteE p p.last e) ig (noteF p p.last fi))) :: .o ig (.map (noteM p p.last em)) :: .o is (.cells [spL u (addS (spanP p) l)]) :: .o ib (.cells (buC im)) :: .o im (.map es) :: E2) (B := E) (C := G) (Hp.rest (A := [.o i6 (.cells [i64v p.off, i64v (p.off + (total p.fs : Int))]), .o i3 (.cells (amC p))]) (Hp.mid (A := [.o ip (.cells (peC v2 is (noteE p p.last e) ig (noteF p p.last fi))), .o ig (.map (noteM p p.last em)), .o is (.cells [spL u (addS (spanP p) l)])]) (B := [.o i6 (.cells [i64v p.off, i64v (p.off + (total p.fs : Int))]), .o i3 (.cells (amC p))]) (C := .o ib (.cells (buC im)) :: .o im (.map es) :: (E2 ++ (E ++ G))) H)))).perm (.cons _ (.swap _ _ _))⟩⟩⟩

set_option maxHeartbeats 8000000 in
theorem buPutNew (H : Hp σb (.o ib (.cells (buC im)) :: .o im (.map es) :: G) σ) (p : Pk) (hf : es.find? (fun e => e.1 == p.sn) = none) (hl : p.fs.length ≤ 1000) (ht : total p.fs ≤ 1000000) :
    ACalls Try.prog i_rxbuf_Buffer_Put [.ptr ib 0, amV p] σ fun r σ' => r = i64v (putK p [] (-1)) ∧
      ((putK p [] (-1) ≠ 0 ∧ Hp σb (.o ib (.cells (buC im)) :: .o im (.map es) :: G) σ') ∨
       (putK p [] (-1) = 0 ∧ ∃ ip is ig v2 E2 u, RB v2 (fillB [] p.off.toNat p.fs.flatten []) E2 ∧ Hp σb (.o ip (.cells (peC v2 is (noteE p (endsB p) (-1)) ig (noteF p (endsB p) 0))) :: .o is (.cells [spL u (addS (spanP p) [])]) :: .o ig (.map (noteM p (endsB p) [])) :: .o ib (.cells (buC im)) :: .o im (.map (es ++ [(p.sn, .ptr ip 0)])) :: (E2 ++ G)) σ')) := by
  refine k_rxbuf_Buffer_Put rfl ?_
  ((conv => whnf); (repeat ((first | with_reducible (first | refine zT rfl ?_ | refine zF rfl ?_ | refine zY rfl ?_) | refine zY (by decide) ?_ | refine zN (by decide) ?_ | with_reducible refine zQ ?_); (conv => whnf))))
  refine hnew H rfl ?_
  clear H
  intro i3 τ H
  ((conv => whnf); (repeat ((first | with_reducible (first | refine zT rfl ?_ | refine zF rfl ?_ | refine zY rfl ?_) | refine zY (by decide) ?_ | refine zN (by decide) ?_ | with_reducible refine zQ ?_); (conv => whnf))))
  refine acall (buMade (H.get (k := 1) rfl)) ?_
  rintro _ σ_ ⟨rfl, e_⟩
  obtain rfl := e_.symm
  refine ⟨?_, Ext.refl _⟩
  ((conv => whnf); (repeat ((first | with_reducible (first | refine zT rfl ?_ | refine zF rfl ?_ | refine zY rfl ?_) | refine zY (by decide) ?_ | refine zN (by decide) ?_ | with_reducible refine zQ ?_); (conv => whnf))))
  (repeat ((first | refine zI (by omega) ?_ | refine zE (by omega) (by omega) ?_ | refine zD (by omega) (by omega) ?_ | refine zY (by omega) ?_ | refine zN (by omega) ?_ | refine amin ?_ | refine amax ?_ | refine zU (by omega) ?_ | refine z8 (by omega) ?_ | refine zX (by omega) (by omega) ?_ | refine zR rfl ?_ | refine acellA ?_ | refine zB H b1 rfl ?_ | refine zC H b1 ?_ | refine zB H b2 rfl ?_ | refine zC H b2 ?_ | refine zB H b3 rfl ?_ | refine zC H b3 ?_ | refine zB H b4 rfl ?_ | refine zC H b4 ?_ | (apply zL H; (· repeat first | exact .h | apply AtK.t); (· rfl)) | (apply zA H; (· repeat first | exact .h | apply AtK.t)) | (apply zS H; (· repeat first | exact .h | apply AtK.t); (· rfl); (conv => whnf); clear H; intro τ H) | rw [List.length_map]); ((conv => whnf); (repeat ((first | with_reducible (first | refine zT rfl ?_ | refine zF rfl ?_ | refine zY rfl ?_) | refine zY (by decide) ?_ | refine zN (by decide) ?_ | with_reducible refine zQ ?_); (conv => whnf))))))
  refine acall (buRight p τ hl (by omega)) ?_
  rintro _ σ_ ⟨rfl, e_⟩
  obtain rfl := e_.symm
  refine ⟨?_, Ext.refl _⟩
  ((conv => whnf); (repeat ((first | with_reducible (first | refine zT rfl ?_ | refine zF rfl ?_ | refine zY rfl ?_) | refine zY (by decide) ?_ | refine zN (by decide) ?_ | with_reducible refine zQ ?_); (conv => whnf))))
  rcases (show rightB p = false ∨ rightB p = true by cases rightB p <;> simp) with hr | hr
  · have hk : putK p [] (-1) = 1 := by unfold putK; rw [if_pos hr]
    rw [hr]
    ((conv => whnf); (repeat ((first | with_reducible (first | refine zT rfl ?_ | refine zF rfl ?_ | refine zY rfl ?_) | refine zY (by decide) ?_ | refine zN (by decide) ?_ | with_reducible refine zQ ?_); (conv => whnf))))
    (repeat ((first | refine zI (by omega) ?_ | refine zE (by omega) (by omega) ?_ | refine zD (by omega) (by omega) ?_ | refine zY (by omega) ?_ | refine zN (by omega) ?_ | refine amin ?_ | refine amax ?_ | refine zU (by omega) ?_ | refine z8 (by omega) ?_ | refine zX (by omega) (by omega) ?_ | refine zR rfl ?_ | refine acellA ?_ | refine zB H b1 rfl ?_ | refine zC H b1 ?_ | refine zB H b2 rfl ?_ | refine zC H b2 ?_ | refine zB H b3 rfl ?_ | refine zC H b3 ?_ | refine zB H b4 rfl ?_ | refine zC H b4 ?_ | (apply zL H; (· repeat first | exact .h | apply AtK.t); (· rfl)) | (apply zA H; (· repeat first | exact .h | apply AtK.t)) | (apply zS H; (· repeat first | exact .h | apply AtK.t); (· rfl); (conv => whnf); clear H; intro τ H) | rw [List.length_map]); ((conv => whnf); (repeat ((first | with_reducible (first | refine zT rfl ?_ | refine zF rfl ?_ | refine zY rfl ?_) | refine zY (by decide) ?_ | refine zN (by decide) ?_ | with_reducible refine zQ ?_); (conv => whnf))))))
    exact aret (VLe.refl _) (Sub.refl _) ⟨by rw [hk], .inl ⟨by rw [hk]; decide, H.tail⟩⟩
  rw [hr]
  obtain ⟨g1, g2, g3, g4, g5, g6, g7, g8, g9⟩ := right_ok hr
  have gp := right_pos hr
  have hdn : p.fs.flatten ≠ [] := fun h => by have : total p.fs = 0 := by unfold total; rw [h]; rfl
                                              omega
  have htl : p.fs.flatten.length = total p.fs := rfl
  ((conv => whnf); (repeat ((first | with_reducible (first | refine zT rfl ?_ | refine zF rfl ?_ | refine zY rfl ?_) | refine zY (by decide) ?_ | refine zN (by decide) ?_ | with_reducible refine zQ ?_); (conv => whnf))))
  (repeat ((first | refine zI (by omega) ?_ | refine zE (by omega) (by omega) ?_ | refine zD (by omega) (by omega) ?_ | refine zY (by omega) ?_ | refine zN (by omega) ?_ | refine amin ?_ | refine amax ?_ | refine zU (by omega) ?_ | refine z8 (by omega) ?_ | refine zX (by omega) (by omega) ?_ | refine zR rfl ?_ | refine acellA ?_ | refine zB H b1 rfl ?_ | refine zC H b1 ?_ | refine zB H b2 rfl ?_ | refine zC H b2 ?_ | refine zB H b3 rfl ?_ | refine zC H b3 ?_ | refine zB H b4 rfl ?_ | refine zC H b4 ?_ | (apply zL H; (· repeat first | exact .h | apply AtK.t); (· rfl)) | (apply zA H; (· repeat first | exact .h | apply AtK.t)) | (apply zS H; (· repeat first | exact .h | apply AtK.t); (· rfl); (conv => whnf); clear H; intro τ H) | rw [List.length_map]); ((conv => whnf); (repeat ((first | with_reducible (first | refine zT rfl ?_ | refine zF rfl ?_ | refine zY rfl ?_) | refine zY (by decide) ?_ | refine zN (by decide) ?_ | with_reducible refine zQ ?_); (conv => whnf))))))
  refine acall (aData p τ hl (by omega)) ?_
  rintro _ σ_ ⟨rfl, e_⟩
  obtain rfl := e_.symm
  refine ⟨?_, Ext.refl _⟩
  ((conv => whnf); (repeat ((first | with_reducible (first | refine zT rfl ?_ | refine zF rfl ?_ | refine zY rfl ?_) | refine zY (by decide) ?_ | refine zN (by decide) ?_ | with_reducible refine zQ ?_); (conv => whnf))))
  (repeat ((first | refine zI (by omega) ?_ | refine zE (by omega) (by omega) ?_ | refine zD (by omega) (by omega) ?_ | refine zY (by omega) ?_ | refine zN (by omega) ?_ | refine amin ?_ | refine amax ?_ | refine zU (by omega) ?_ | refine z8 (by omega) ?_ | refine zX (by omega) (by omega) ?_ | refine zR rfl ?_ | refine acellA ?_ | refine zB H b1 rfl ?_ | refine zC H b1 ?_ | refine zB H b2 rfl ?_ | refine zC H b2 ?_ | refine zB H b3 rfl ?_ | refine zC H b3 ?_ | refine zB H b4 rfl ?_ | refine zC H b4 ?_ | (apply zL H; (· repeat first | exact .h | apply AtK.t); (· rfl)) | (apply zA H; (· repeat first | exact .h | apply AtK.t)) | (apply zS H; (· repeat first | exact .h | apply AtK.t); (· rfl); (conv => whnf); clear H; intro τ H) | rw [List.length_map]); ((conv => whnf); (repeat ((first | with_reducible (first | refine zT rfl ?_ | refine zF rfl ?_ | refine zY rfl ?_) | refine zY (by decide) ?_ | refine zN (by decide) ?_ | with_reducible refine zQ ?_); (conv => whnf))))))
  refine hnew H rfl ?_
  clear H
  intro i6 τ H
  ((conv => whnf); (repeat ((first | with_reducible (first | refine zT rfl ?_ | refine zF rfl ?_ | refine zY rfl ?_) | refine zY (by decide) ?_ | refine zN (by decide) ?_ | with_reducible refine zQ ?_); (conv => whnf))))
  (repeat ((first | refine zI (by omega) ?_ | refine zE (by omega) (by omega) ?_ | refine zD (by omega) (by omega) ?_ | refine zY (by omega) ?_ | refine zN (by omega) ?_ | refine amin ?_ | refine amax ?_ | refine zU (by omega) ?_ | refine z8 (by omega) ?_ | refine zX (by omega) (by omega) ?_ | refine zR rfl ?_ | refine acellA ?_ | refine zB H b1 rfl ?_ | refine zC H b1 ?_ | refine zB H b2 rfl ?_ | refine zC H b2 ?_ | refine zB H b3 rfl ?_ | refine zC H b3 ?_ | refine zB H b4 rfl ?_ | refine zC H b4 ?_ | (apply zL H; (· repeat first | exact .h | apply AtK.t); (· rfl)) | (apply zA H; (· repeat first | exact .h | apply AtK.t)) | (apply zS H; (· repeat first | exact .h | apply AtK.t); (· rfl); (conv => whnf); clear H; intro τ H) | rw [List.length_map]); ((conv => whnf); (repeat ((first | with_reducible (first | refine zT rfl ?_ | refine zF rfl ?_ | refine zY rfl ?_) | refine zY (by decide) ?_ | refine zN (by decide) ?_ | with_reducible refine zQ ?_); (conv => whnf))))))
  rcases (show p.part = false ∨ p.part = true by cases p.part <;> simp) with hp | hp
  · have hen : endsB p = true := by unfold endsB; rw [hp]; rfl
    refine abr_true (show (!p.part) = true by rw [hp]; rfl) ?_
    ((conv => whnf); (repeat ((first | with_reducible (first | refine zT rfl ?_ | refine zF rfl ?_ | refine zY rfl ?_) | refine zY (by decide) ?_ | refine zN (by decide) ?_ | with_reducible refine zQ ?_); (conv => whnf))))
    (repeat ((first | refine zI (by omega) ?_ | refine zE (by omega) (by omega) ?_ | refine zD (by omega) (by omega) ?_ | refine zY (by omega) ?_ | refine zN (by omega) ?_ | refine amin ?_ | refine amax ?_ | refine zU (by omega) ?_ | refine z8 (by omega) ?_ | refine zX (by omega) (by omega) ?_ | refine zR rfl ?_ | refine acellA ?_ | refine zB H b1 rfl ?_ | refine zC H b1 ?_ | refine zB H b2 rfl ?_ | refine zC H b2 ?_ | refine zB H b3 rfl ?_ | refine zC H b3 ?_ | refine zB H b4 rfl ?_ | refine zC H b4 ?_ | (apply zL H; (· repeat first | exact .h | apply AtK.t); (· rfl)) | (apply zA H; (· repeat first | exact .h | apply AtK.t)) | (apply zS H; (· repeat first | exact .h | apply AtK.t); (· rfl); (conv => whnf); clear H; intro τ H) | rw [List.length_map]); ((conv => whnf); (repeat ((first | with_reducible (first | refine zT rfl ?_ | refine zF rfl ?_ | refine zY rfl ?_) | refine zY (by decide) ?_ | refine zN (by decide) ?_ | with_reducible refine zQ ?_); (conv => whnf))))))
    refine hlook H (k := 3) rfl ?_
    rw [hf]
    ((conv => whnf); (repeat ((first | with_reducible (first | refine zT rfl ?_ | refine zF rfl ?_ | refine zY rfl ?_) | refine zY (by decide) ?_ | refine zN (by decide) ?_ | with_reducible refine zQ ?_); (conv => whnf))))
    (repeat ((first | refine zI (by omega) ?_ | refine zE (by omega) (by omega) ?_ | refine zD (by omega) (by omega) ?_ | refine zY (by omega) ?_ | refine zN (by omega) ?_ | refine amin ?_ | refine amax ?_ | refine zU (by omega) ?_ | refine z8 (by omega) ?_ | refine zX (by omega) (by omega) ?_ | refine zR rfl ?_ | refine acellA ?_ | refine zB H b1 rfl ?_ | refine zC H b1 ?_ | refine zB H b2 rfl ?_ | refine zC H b2 ?_ | refine zB H b3 rfl ?_ | refine zC H b3 ?_ | refine zB H b4 rfl ?_ | refine zC H b4 ?_ | (apply zL H; (· repeat first | exact .h | apply AtK.t); (· rfl)) | (apply zA H; (· repeat first | exact .h | apply AtK.t)) | (apply zS H; (· repeat first | exact .h | apply AtK.t); (· rfl); (conv => whnf); clear H; intro τ H) | rw [List.length_map]); ((conv => whnf); (repeat ((first | with_reducible (first | refine zT rfl ?_ | refine zF rfl ?_ | refine zY rfl ?_) | refine zY (by decide) ?_ | refine zN (by decide) ?_ | with_reducible refine zQ ?_); (conv => whnf))))))
    refine acall (sNew [] .full τ (by simp)) ?_
    rintro _ σ2 (⟨h, _⟩ | ⟨_, is, u0, rfl, N⟩)
    · exact (h rfl).elim
    refine ⟨?_, N.ext⟩
    replace H := H.join N
    clear N
    ((conv => whnf); (repeat ((first | with_reducible (first | refine zT rfl ?_ | refine zF rfl ?_ | refine zY rfl ?_) | refine zY (by decide) ?_ | refine zN (by decide) ?_ | with_reducible refine zQ ?_); (conv => whnf))))
    (repeat ((first | refine zI (by omega) ?_ | refine zE (by omega) (by omega) ?_ | refine zD (by omega) (by omega) ?_ | refine zY (by omega) ?_ | refine zN (by omega) ?_ | refine amin ?_ | refine amax ?_ | refine zU (by omega) ?_ | refine z8 (by omega) ?_ | refine zX (by omega) (by omega) ?_ | refine zR rfl ?_ | refine acellA ?_ | refine zB H b1 rfl ?_ | refine zC H b1 ?_ | refine zB H b2 rfl ?_ | refine zC H b2 ?_ | refine zB H b3 rfl ?_ | refine zC H b3 ?_ | refine zB H b4 rfl ?_ | refine zC H b4 ?_ | (apply zL H; (· repeat first | exact .h | apply AtK.t); (· rfl)) | (apply zA H; (· repeat first | exact .h | apply AtK.t)) | (apply zS H; (· repeat first | exact .h | apply AtK.t); (· rfl); (conv => whnf); clear H; intro τ H) | rw [List.length_map]); ((conv => whnf); (repeat ((first | with_reducible (first | refine zT rfl ?_ | refine zF rfl ?_ | refine zY rfl ?_) | refine zY (by decide) ?_ | refine zN (by decide) ?_ | with_reducible refine zQ ?_); (conv => whnf))))))
    refine hnewmap H ?_
    clear H
    intro ig τ H
    ((conv => whnf); (repeat ((first | with_reducible (first | refine zT rfl ?_ | refine zF rfl ?_ | refine zY rfl ?_) | refine zY (by decide) ?_ | refine zN (by decide) ?_ | with_reducible refine zQ ?_); (conv => whnf))))
    (repeat ((first | refine zI (by omega) ?_ | refine zE (by omega) (by omega) ?_ | refine zD (by omega) (by omega) ?_ | refine zY (by omega) ?_ | refine zN (by omega) ?_ | refine amin ?_ | refine amax ?_ | refine zU (by omega) ?_ | refine z8 (by omega) ?_ | refine zX (by omega) (by omega) ?_ | refine zR rfl ?_ | refine acellA ?_ | refine zB H b1 rfl ?_ | refine zC H b1 ?_ | refine zB H b2 rfl ?_ | refine zC H b2 ?_ | refine zB H b3 rfl ?_ | refine zC H b3 ?_ | refine zB H b4 rfl ?_ | refine zC H b4 ?_ | (apply zL H; (· repeat first | exact .h | apply AtK.t); (· rfl)) | (apply zA H; (· repeat first | exact .h | apply AtK.t)) | (apply zS H; (· repeat first | exact .h | apply AtK.t); (· rfl); (conv => whnf); clear H; intro τ H) | rw [List.length_map]); ((conv => whnf); (repeat ((first | with_reducible (first | refine zT rfl ?_ | refine zF rfl ?_ | refine zY rfl ?_) | refine zY (by decide) ?_ | refine zN (by decide) ?_ | with_reducible refine zQ ?_); (conv => whnf))))))
    refine hnew H rfl ?_
    clear H
    intro ip τ H
    ((conv => whnf); (repeat ((first | with_reducible (first | refine zT rfl ?_ | refine zF rfl ?_ | refine zY rfl ?_) | refine zY (by decide) ?_ | refine zN (by decide) ?_ | with_reducible refine zQ ?_); (conv => whnf))))
    (repeat ((first | refine zI (by omega) ?_ | refine zE (by omega) (by omega) ?_ | refine zD (by omega) (by omega) ?_ | refine zY (by omega) ?_ | refine zN (by omega) ?_ | refine amin ?_ | refine amax ?_ | refine zU (by omega) ?_ | refine z8 (by omega) ?_ | refine zX (by omega) (by omega) ?_ | refine zR rfl ?_ | refine acellA ?_ | refine zB H b1 rfl ?_ | refine zC H b1 ?_ | refine zB H b2 rfl ?_ | refine zC H b2 ?_ | refine zB H b3 rfl ?_ | refine zC H b3 ?_ | refine zB H b4 rfl ?_ | refine zC H b4 ?_ | (apply zL H; (· repeat first | exact .h | apply AtK.t); (· rfl)) | (apply zA H; (· repeat first | exact .h | apply AtK.t)) | (apply zS H; (· repeat first | exact .h | apply AtK.t); (· rfl); (conv => whnf); clear H; intro τ H) | rw [List.length_map]); ((conv => whnf); (repeat ((first | with_reducible (first | refine zT rfl ?_ | refine zF rfl ?_ | refine zY rfl ?_) | refine zY (by decide) ?_ | refine zN (by decide) ?_ | with_reducible refine zQ ?_); (conv => whnf))))))
    replace H : Hp σb (.o ip (.cells (peC (.slice 1 [] .full) is (-1) ig 0)) :: .o is (.cells [spL u0 []]) :: .o ig (.map []) :: .o i6 (.cells [i64v p.off, i64v (p.off + (total p.fs : Int))]) :: .o i3 (.cells (amC p)) :: .o ib (.cells (buC im)) :: .o im (.map es) :: ([] ++ G)) τ := H.perm (.cons _ (.swap _ _ _))
    refine acall (peFits (H.get (k := 0) rfl) (H.get (k := 1) rfl) (by have := SOk.nil.k; omega) (spanP p) true) ?_
    rintro _ σ_ ⟨rfl, e_⟩
    obtain rfl := e_.symm
    refine ⟨?_, Ext.refl _⟩
    ((conv => whnf); (repeat ((first | with_reducible (first | refine zT rfl ?_ | refine zF rfl ?_ | refine zY rfl ?_) | refine zY (by decide) ?_ | refine zN (by decide) ?_ | with_reducible refine zQ ?_); (conv => whnf))))
    have hk : putK p [] (-1) = if fitsC [] (-1) (spanP p) true ≠ 0 then fitsC [] (-1) (spanP p) true else addC (spanP p) [] := by unfold putK; rw [if_neg (by rw [hr]; simp), hen]
    by_cases hc : fitsC [] (-1) (spanP p) true = 0
    case neg =>
      rw [if_pos hc] at hk
      (repeat ((first | refine zI (by omega) ?_ | refine zE (by omega) (by omega) ?_ | refine zD (by omega) (by omega) ?_ | refine zY (by omega) ?_ | refine zN (by omega) ?_ | refine amin ?_ | refine amax ?_ | refine zU (by omega) ?_ | refine z8 (by omega) ?_ | refine zX (by omega) (by omega) ?_ | refine zR rfl ?_ | refine acellA ?_ | refine zB H b1 rfl ?_ | refine zC H b1 ?_ | refine zB H b2 rfl ?_ | refine zC H b2 ?_ | refine zB H b3 rfl ?_ | refine zC H b3 ?_ | refine zB H b4 rfl ?_ | refine zC H b4 ?_ | (apply zL H; (· repeat first | exact .h | apply AtK.t); (· rfl)) | (apply zA H; (· repeat first | exact .h | apply AtK.t)) | (apply zS H; (· repeat first | exact .h | apply AtK.t); (· rfl); (conv => whnf); clear H; intro τ H) | rw [List.length_map]); ((conv => whnf); (repeat ((first | with_reducible (first | refine zT rfl ?_ | refine zF rfl ?_ | refine zY rfl ?_) | refine zY (by decide) ?_ | refine zN (by decide) ?_ | with_reducible refine zQ ?_); (conv => whnf))))))
      exact aret (VLe.refl _) (Sub.refl _) ⟨by rw [hk], .inl ⟨by rw [hk]; exact hc, Hp.rest (A := [.o ip (.cells (peC (.slice 1 [] .full) is (-1) ig 0)), .o is (.cells [spL u0 []]), .o ig (.map [])] ++ [.o i6 (.cells [i64v p.off, i64v (p.off + (total p.fs : Int))]), .o i3 (.cells (amC p))]) H⟩⟩
    rw [if_neg (by rw [hc]; simp)] at hk
    rw [hc]
    ((conv => whnf); (repeat ((first | with_reducible (first | refine zT rfl ?_ | refine zF rfl ?_ | refine zY rfl ?_) | refine zY (by decide) ?_ | refine zN (by decide) ?_ | with_reducible refine zQ ?_); (conv => whnf))))
    (repeat ((first | refine zI (by omega) ?_ | refine zE (by omega) (by omega) ?_ | refine zD (by omega) (by omega) ?_ | refine zY (by omega) ?_ | refine zN (by omega) ?_ | refine amin ?_ | refine amax ?_ | refine zU (by omega) ?_ | refine z8 (by omega) ?_ | refine zX (by omega) (by omega) ?_ | refine zR rfl ?_ | refine acellA ?_ | refine zB H b1 rfl ?_ | refine zC H b1 ?_ | refine zB H b2 rfl ?_ | refine zC H b2 ?_ | refine zB H b3 rfl ?_ | refine zC H b3 ?_ | refine zB H b4 rfl ?_ | refine zC H b4 ?_ | (apply zL H; (· repeat first | exact .h | apply AtK.t); (· rfl)) | (apply zA H; (· repeat first | exact .h | apply AtK.t)) | (apply zS H; (· repeat first | exact .h | apply AtK.t); (· rfl); (conv => whnf); clear H; intro τ H) | rw [List.length_map]); ((conv => whnf); (repeat ((first | with_reducible (first | refine zT rfl ?_ | refine zF rfl ?_ | refine zY rfl ?_) | refine zY (by decide) ?_ | refine zN (by decide) ?_ | with_reducible refine zQ ?_); (conv => whnf))))))
    refine acall (cloneB (RB.dv (F := [.o ip (.cells (peC (.slice 1 [] .full) is (-1) ig 0)), .o is (.cells [spL u0 []]), .o ig (.map []), .o i6 (.cells [i64v p.off, i64v (p.off + (total p.fs : Int))]), .o i3 (.cells (amC p)), .o ib (.cells (buC im)), .o im (.map es)]) RB.nil H) (by simp)) ?_
    rintro v1 υ ⟨E1, h1, N⟩
    refine ⟨?_, N.ext⟩
    replace H := Hp.mid (A := E1) (B := [.o ip (.cells (peC (.slice 1 [] .full) is (-1) ig 0)), .o is (.cells [spL u0 []]), .o ig (.map []), .o i6 (.cells [i64v p.off, i64v (p.off + (total p.fs : Int))]), .o i3 (.cells (amC p)), .o ib (.cells (buC im)), .o im (.map es)]) (C := ([] : List HE) ++ G) (H.join N)
    replace H : Hp σb (.o ip (.cells (peC (.slice 1 [] .full) is (-1) ig 0)) :: .o is (.cells [spL u0 []]) :: .o ig (.map []) :: .o i6 (.cells [i64v p.off, i64v (p.off + (total p.fs : Int))]) :: .o i3 (.cells (amC p)) :: .o ib (.cells (buC im)) :: .o im (.map es) :: (E1 ++ (([] : List HE) ++ G))) υ := H
    clear N
    ((conv => whnf); (repeat ((first | with_reducible (first | refine zT rfl ?_ | refine zF rfl ?_ | refine zY rfl ?_) | refine zY (by decide) ?_ | refine zN (by decide) ?_ | with_reducible refine zQ ?_); (conv => whnf))))
    (repeat ((first | refine zI (by omega) ?_ | refine zE (by omega) (by omega) ?_ | refine zD (by omega) (by omega) ?_ | refine zY (by omega) ?_ | refine zN (by omega) ?_ | refine amin ?_ | refine amax ?_ | refine zU (by omega) ?_ | refine z8 (by omega) ?_ | refine zX (by omega) (by omega) ?_ | refine zR rfl ?_ | refine acellA ?_ | refine zB H b1 rfl ?_ | refine zC H b1 ?_ | refine zB H b2 rfl ?_ | refine zC H b2 ?_ | refine zB H b3 rfl ?_ | refine zC H b3 ?_ | refine zB H b4 rfl ?_ | refine zC H b4 ?_ | (apply zL H; (· repeat first | exact .h | apply AtK.t); (· rfl)) | (apply zA H; (· repeat first | exact .h | apply AtK.t)) | (apply zS H; (· repeat first | exact .h | apply AtK.t); (· rfl); (conv => whnf); clear H; intro τ H) | rw [List.length_map]); ((conv => whnf); (repeat ((first | with_reducible (first | refine zT rfl ?_ | refine zF rfl ?_ | refine zY rfl ?_) | refine zY (by decide) ?_ | refine zN (by decide) ?_ | with_reducible refine zQ ?_); (conv => whnf))))))
    rw [h1.cells1]
    ((conv => whnf); (repeat ((first | with_reducible (first | refine zT rfl ?_ | refine zF rfl ?_ | refine zY rfl ?_) | refine zY (by decide) ?_ | refine zN (by decide) ?_ | with_reducible refine zQ ?_); (conv => whnf))))
    apply zS H
    · exact .h
    · show (v1.isCell && true) = true
      rw [h1.isCell]; rfl
    (conv => whnf)
    clear H
    intro τ H
    ((conv => whnf); (repeat ((first | with_reducible (first | refine zT rfl ?_ | refine zF rfl ?_ | refine zY rfl ?_) | refine zY (by decide) ?_ | refine zN (by decide) ?_ | with_reducible refine zQ ?_); (conv => whnf))))
    (repeat ((first | refine zI (by omega) ?_ | refine zE (by omega) (by omega) ?_ | refine zD (by omega) (by omega) ?_ | refine zY (by omega) ?_ | refine zN (by omega) ?_ | refine amin ?_ | refine amax ?_ | refine zU (by omega) ?_ | refine z8 (by omega) ?_ | refine zX (by omega) (by omega) ?_ | refine zR rfl ?_ | refine acellA ?_ | refine zB H b1 rfl ?_ | refine zC H b1 ?_ | refine zB H b2 rfl ?_ | refine zC H b2 ?_ | refine zB H b3 rfl ?_ | refine zC H b3 ?_ | refine zB H b4 rfl ?_ | refine zC H b4 ?_ | (apply zL H; (· repeat first | exact .h | apply AtK.t); (· rfl)) | (apply zA H; (· repeat first | exact .h | apply AtK.t)) | (apply zS H; (· repeat first | exact .h | apply AtK.t); (· rfl); (conv => whnf); clear H; intro τ H) | rw [List.length_map]); ((conv => whnf); (repeat ((first | with_reducible (first | refine zT rfl ?_ | refine zF rfl ?_ | refine zY rfl ?_) | refine zY (by decide) ?_ | refine zN (by decide) ?_ | with_reducible refine zQ ?_); (conv => whnf))))))
    replace H : Hp σb (.o ip (.cells (peC v1 is (-1) ig 0)) :: .o is (.cells [spL u0 []]) :: (E1 ++ ([.o ig (.map []), .o i6 (.cells [i64v p.off, i64v (p.off + (total p.fs : Int))]), .o i3 (.cells (amC p)), .o ib (.cells (buC im)), .o im (.map es)] ++ (([] : List HE) ++ G)))) τ :=
      Hp.mid (B := [.o ip (.cells (peC v1 is (-1) ig 0)), .o is (.cells [spL u0 []])]) (Hp.mid (A := [.o ip (.cells (peC v1 is (-1) ig 0)), .o is (.cells [spL u0 []]), .o ig (.map []), .o i6 (.cells [i64v p.off, i64v (p.off + (total p.fs : Int))]), .o i3 (.cells (amC p)), .o ib (.cells (buC im)), .o im (.map es)]) (B := E1) (C := ([] : List HE) ++ G) H)
    refine acall (peFillA h1 H p.off.toNat p.off (by omega) p.fs.flatten hdn (by show p.off.toNat + p.fs.flatten.length ≤ _; omega) (by simp) (by have := SOk.nil.k; omega)) ?_
    clear H h1
    rintro _ τ ⟨rfl, v2, E2, h2, H⟩
    replace H : Hp σb (.o ip (.cells (peC v2 is (-1) ig 0)) :: .o is (.cells [spL u0 []]) :: .o ig (.map []) :: .o i6 (.cells [i64v p.off, i64v (p.off + (total p.fs : Int))]) :: .o i3 (.cells (amC p)) :: .o ib (.cells (buC im)) :: .o im (.map es) :: (E2 ++ (([] : List HE) ++ G))) τ := Hp.mid2 (A := [.o ip (.cells (peC v2 is (-1) ig 0)), .o is (.cells [spL u0 []])]) (B := E2) (C := [.o ig (.map []), .o i6 (.cells [i64v p.off, i64v (p.off + (total p.fs : Int))]), .o i3 (.cells (amC p)), .o ib (.cells (buC im)), .o im (.map es)]) H
    ((conv => whnf); (repeat ((first | with_reducible (first | refine zT rfl ?_ | refine zF rfl ?_ | refine zY rfl ?_) | refine zY (by decide) ?_ | refine zN (by decide) ?_ | with_reducible refine zQ ?_); (conv => whnf))))
    (repeat ((first | refine zI (by omega) ?_ | refine zE (by omega) (by omega) ?_ | refine zD (by omega) (by omega) ?_ | refine zY (by omega) ?_ | refine zN (by omega) ?_ | refine amin ?_ | refine amax ?_ | refine zU (by omega) ?_ | refine z8 (by omega) ?_ | refine zX (by omega) (by omega) ?_ | refine zR rfl ?_ | refine acellA ?_ | refine zB H b1 rfl ?_ | refine zC H b1 ?_ | refine zB H b2 rfl ?_ | refine zC H b2 ?_ | refine zB H b3 rfl ?_ | refine zC H b3 ?_ | refine zB H b4 rfl ?_ | refine zC H b4 ?_ | (apply zL H; (· repeat first | exact .h | apply AtK.t); (· rfl)) | (apply zA H; (· repeat first | exact .h | apply AtK.t)) | (apply zS H; (· repeat first | exact .h | apply AtK.t); (· rfl); (conv => whnf); clear H; intro τ H) | rw [List.length_map]); ((conv => whnf); (repeat ((first | with_reducible (first | refine zT rfl ?_ | refine zF rfl ?_ | refine zY rfl ?_) | refine zY (by decide) ?_ | refine zN (by decide) ?_ | with_reducible refine zQ ?_); (conv => whnf))))))
    refine acall (sAdd (H.perm (.swap _ _ _)) (spanP p) (by have := SOk.nil.k; omega)) ?_
    clear H
    rintro _ τ ⟨rfl, u, H⟩
    replace H : Hp σb (.o is (.cells [spL u (addS (spanP p) [])]) :: .o ip (.cells (peC v2 is (-1) ig 0)) :: .o ig (.map []) :: .o i6 (.cells [i64v p.off, i64v (p.off + (total p.fs : Int))]) :: .o i3 (.cells (amC p)) :: .o ib (.cells (buC im)) :: .o im (.map es) :: (E2 ++ (([] : List HE) ++ G))) τ := H
    ((conv => whnf); (repeat ((first | with_reducible (first | refine zT rfl ?_ | refine zF rfl ?_ | refine zY rfl ?_) | refine zY (by decide) ?_ | refine zN (by decide) ?_ | with_reducible refine zQ ?_); (conv => whnf))))
    by_cases ha : addC (spanP p) [] = 0
    case neg =>
      rw [add_no ha] at H
      (repeat ((first | refine zI (by omega) ?_ | refine zE (by omega) (by omega) ?_ | refine zD (by omega) (by omega) ?_ | refine zY (by omega) ?_ | refine zN (by omega) ?_ | refine amin ?_ | refine amax ?_ | refine zU (by omega) ?_ | refine z8 (by omega) ?_ | refine zX (by omega) (by omega) ?_ | refine zR rfl ?_ | refine acellA ?_ | refine zB H b1 rfl ?_ | refine zC H b1 ?_ | refine zB H b2 rfl ?_ | refine zC H b2 ?_ | refine zB H b3 rfl ?_ | refine zC H b3 ?_ | refine zB H b4 rfl ?_ | refine zC H b4 ?_ | (apply zL H; (· repeat first | exact .h | apply AtK.t); (· rfl)) | (apply zA H; (· repeat first | exact .h | apply AtK.t)) | (apply zS H; (· repeat first | exact .h | apply AtK.t); (· rfl); (conv => whnf); clear H; intro τ H) | rw [List.length_map]); ((conv => whnf); (repeat ((first | with_reducible (first | refine zT rfl ?_ | refine zF rfl ?_ | refine zY rfl ?_) | refine zY (by decide) ?_ | refine zN (by decide) ?_ | with_reducible refine zQ ?_); (conv => whnf))))))
      have H := Hp.rest (A := E2) (Hp.mid (A := [.o is (.cells [spL u []]), .o ip (.cells (peC (.slice 1 [] .full) is (-1) ig 0)), .o ig (.map []), .o i6 (.cells [i64v p.off, i64v (p.off + (total p.fs : Int))]), .o i3 (.cells (amC p)), .o ib (.cells (buC im)), .o im (.map es)]) (B := E2) H)
      (repeat ((first | refine zI (by omega) ?_ | refine zE (by omega) (by omega) ?_ | refine zD (by omega) (by omega) ?_ | refine zY (by omega) ?_ | refine zN (by omega) ?_ | refine amin ?_ | refine amax ?_ | refine zU (by omega) ?_ | refine z8 (by omega) ?_ | refine zX (by omega) (by omega) ?_ | refine zR rfl ?_ | refine acellA ?_ | refine zB H b1 rfl ?_ | refine zC H b1 ?_ | refine zB H b2 rfl ?_ | refine zC H b2 ?_ | refine zB H b3 rfl ?_ | refine zC H b3 ?_ | refine zB H b4 rfl ?_ | refine zC H b4 ?_ | (apply zL H; (· repeat first | exact .h | apply AtK.t); (· rfl)) | (apply zA H; (· repeat first | exact .h | apply AtK.t)) | (apply zS H; (· repeat first | exact .h | apply AtK.t); (· rfl); (conv => whnf); clear H; intro τ H) | rw [List.length_map]); ((conv => whnf); (repeat ((first | with_reducible (first | refine zT rfl ?_ | refine zF rfl ?_ | refine zY rfl ?_) | refine zY (by decide) ?_ | refine zN (by decide) ?_ | with_reducible refine zQ ?_); (conv => whnf))))))
      exact aret (VLe.refl _) (Sub.refl _) ⟨by rw [hk], .inl ⟨by rw [hk]; exact ha, Hp.rest (A := [.o is (.cells [spL u []]), .o ip (.cells (peC (.slice 1 [] .full) is (-1) ig 0)), .o ig (.map [])] ++ [.o i6 (.cells [i64v p.off, i64v (p.off + (total p.fs : Int))]), .o i3 (.cells (amC p))]) H⟩⟩
    rw [ha]
    ((conv => whnf); (repeat ((first | with_reducible (first | refine zT rfl ?_ | refine zF rfl ?_ | refine zY rfl ?_) | refine zY (by decide) ?_ | refine zN (by decide) ?_ | with_reducible refine zQ ?_); (conv => whnf))))
    (repeat ((first | refine zI (by omega) ?_ | refine zE (by omega) (by omega) ?_ | refine zD (by omega) (by omega) ?_ | refine zY (by omega) ?_ | refine zN (by omega) ?_ | refine amin ?_ | refine amax ?_ | refine zU (by omega) ?_ | refine z8 (by omega) ?_ | refine zX (by omega) (by omega) ?_ | refine zR rfl ?_ | refine acellA ?_ | refine zB H b1 rfl ?_ | refine zC H b1 ?_ | refine zB H b2 rfl ?_ | refine zC H b2 ?_ | refine zB H b3 rfl ?_ | refine zC H b3 ?_ | refine zB H b4 rfl ?_ | refine zC H b4 ?_ | (apply zL H; (· repeat first | exact .h | apply AtK.t); (· rfl)) | (apply zA H; (· repeat first | exact .h | apply AtK.t)) | (apply zS H; (· repeat first | exact .h | apply AtK.t); (· rfl); (conv => whnf); clear H; intro τ H) | rw [List.length_map]); ((conv => whnf); (repeat ((first | with_reducible (first | refine zT rfl ?_ | refine zF rfl ?_ | refine zY rfl ?_) | refine zY (by decide) ?_ | refine zN (by decide) ?_ | with_reducible refine zQ ?_); (conv => whnf))))))
    replace H : Hp σb (.o ip (.cells (peC v2 is (-1) ig 0)) :: .o ig (.map []) :: .o is (.cells [spL u (addS (spanP p) [])]) :: (.o i6 (.cells [i64v p.off, i64v (p.off + (total p.fs : Int))]) :: .o i3 (.cells (amC p)) :: .o ib (.cells (buC im)) :: .o im (.map es) :: (E2 ++ (([] : List HE) ++ G)))) τ := H.perm (.trans (.swap _ _ _) (.cons _ (.swap _ _ _)))
    refine acall (peNote H h2.isCell p true (by omega) (by omega) (by omega)) ?_
    clear H
    rintro _ τ ⟨rfl, H⟩
    ((conv => whnf); (repeat ((first | with_reducible (first | refine zT rfl ?_ | refine zF rfl ?_ | refine zY rfl ?_) | refine zY (by decide) ?_ | refine zN (by decide) ?_ | with_reducible refine zQ ?_); (conv => whnf))))
    (repeat ((first | refine zI (by omega) ?_ | refine zE (by omega) (by omega) ?_ | refine zD (by omega) (by omega) ?_ | refine zY (by omega) ?_ | refine zN (by omega) ?_ | refine amin ?_ | refine amax ?_ | refine zU (by omega) ?_ | refine z8 (by omega) ?_ | refine zX (by omega) (by omega) ?_ | refine zR rfl ?_ | refine acellA ?_ | refine zB H b1 rfl ?_ | refine zC H b1 ?_ | refine zB H b2 rfl ?_ | refine zC H b2 ?_ | refine zB H b3 rfl ?_ | refine zC H b3 ?_ | refine zB H b4 rfl ?_ | refine zC H b4 ?_ | (apply zL H; (· repeat first | exact .h | apply AtK.t); (· rfl)) | (apply zA H; (· repeat first | exact .h | apply AtK.t)) | (apply zS H; (· repeat first | exact .h | apply AtK.t); (· rfl); (conv => whnf); clear H; intro τ H) | rw [List.length_map]); ((conv => whnf); (repeat ((first | with_reducible (first | refine zT rfl ?_ | refine zF rfl ?_ | refine zY rfl ?_) | refine zY (by decide) ?_ | refine zN (by decide) ?_ | with_reducible refine zQ ?_); (conv => whnf))))))
    apply zMs H
    · (repeat first | exact .h | apply AtK.t)
    · rfl
    (conv => whnf)
    clear H
    intro τ H
    ((conv => whnf); (repeat ((first | with_reducible (first | refine zT rfl ?_ | refine zF rfl ?_ | refine zY rfl ?_) | refine zY (by decide) ?_ | refine zN (by decide) ?_ | with_reducible refine zQ ?_); (conv => whnf))))
    rw [mapSet_new hf] at H
    (repeat ((first | refine zI (by omega) ?_ | refine zE (by omega) (by omega) ?_ | refine zD (by omega) (by omega) ?_ | refine zY (by omega) ?_ | refine zN (by omega) ?_ | refine amin ?_ | refine amax ?_ | refine zU (by omega) ?_ | refine z8 (by omega) ?_ | refine zX (by omega) (by omega) ?_ | refine zR rfl ?_ | refine acellA ?_ | refine zB H b1 rfl ?_ | refine zC H b1 ?_ | refine zB H b2 rfl ?_ | refine zC H b2 ?_ | refine zB H b3 rfl ?_ | refine zC H b3 ?_ | refine zB H b4 rfl ?_ | refine zC H b4 ?_ | (apply zL H; (· repeat first | exact .h | apply AtK.t); (· rfl)) | (apply zA H; (· repeat first | exact .h | apply AtK.t)) | (apply zS H; (· repeat first | exact .h | apply AtK.t); (· rfl); (conv => whnf); clear H; intro τ H) | rw [List.length_map]); ((conv => whnf); (repeat ((first | with_reducible (first | refine zT rfl ?_ | refine zF rfl ?_ | refine zY rfl ?_) | refine zY (by decide) ?_ | refine zN (by decide) ?_ | with_reducible refine zQ ?_); (conv => whnf))))))
    rw [hen]
    exact aret (VLe.refl _) (Sub.refl _) ⟨by rw [hk, ha], .inr ⟨by rw [hk, ha], ⟨ip, is, ig, v2, E2, u, h2, (Hp.rest (A := [.o i6 (.cells [i64v p.off, i64v (p.off + (total p.fs : Int))]), .o i3 (.cells (amC p))]) (Hp.mid (A := [.o ip (.cells (peC v2 is (noteE p true (-1)) ig (noteF p true 0))), .o ig (.map (noteM p true [])), .o is (.cells [spL u (addS (spanP p) [])])]) (B := [.o i6 (.cells [i64v p.off, i64v (p.off + (total p.fs : Int))]), .o i3 (.cells (amC p))]) (C := .o ib (.cells (buC im)) :: .o im (.map (es ++ [(p.sn, AVal.ptr ip 0)])) :: (E2 ++ G)) H)).perm (.cons _ (.swap _ _ _))⟩⟩⟩
  · have hen : endsB p = p.last := by unfold endsB; rw [hp]; rfl
    refine abr_false (show (!p.part) = false by rw [hp]; rfl) ?_
    ((conv => whnf); (repeat ((first | with_reducible (first | refine zT rfl ?_ | refine zF rfl ?_ | refine zY rfl ?_) | refine zY (by decide) ?_ | refine zN (by decide) ?_ | with_reducible refine zQ ?_); (conv => whnf))))
    (repeat ((first | refine zI (by omega) ?_ | refine zE (by omega) (by omega) ?_ | refine zD (by omega) (by omega) ?_ | refine zY (by omega) ?_ | refine zN (by omega) ?_ | refine amin ?_ | refine amax ?_ | refine zU (by omega) ?_ | refine z8 (by omega) ?_ | refine zX (by omega) (by omega) ?_ | refine zR rfl ?_ | refine acellA ?_ | refine zB H b1 rfl ?_ | refine zC H b1 ?_ | refine zB H b2 rfl ?_ | refine zC H b2 ?_ | refine zB H b3 rfl ?_ | refine zC H b3 ?_ | refine zB H b4 rfl ?_ | refine zC H b4 ?_ | (apply zL H; (· repeat first | exact .h | apply AtK.t); (· rfl)) | (apply zA H; (· repeat first | exact .h | apply AtK.t)) | (apply zS H; (· repeat first | exact .h | apply AtK.t); (· rfl); (conv => whnf); clear H; intro τ H) | rw [List.length_map]); ((conv => whnf); (repeat ((first | with_reducible (first | refine zT rfl ?_ | refine zF rfl ?_ | refine zY rfl ?_) | refine zY (by decide) ?_ | refine zN (by decide) ?_ | with_reducible refine zQ ?_); (conv => whnf))))))
    refine hlook H (k := 3) rfl ?_
    rw [hf]
    ((conv => whnf); (repeat ((first | with_reducible (first | refine zT rfl ?_ | refine zF rfl ?_ | refine zY rfl ?_) | refine zY (by decide) ?_ | refine zN (by decide) ?_ | with_reducible refine zQ ?_); (conv => whnf))))
    (repeat ((first | refine zI (by omega) ?_ | refine zE (by omega) (by omega) ?_ | refine zD (by omega) (by omega) ?_ | refine zY (by omega) ?_ | refine zN (by omega) ?_ | refine amin ?_ | refine amax ?_ | refine zU (by omega) ?_ | refine z8 (by omega) ?_ | refine zX (by omega) (by omega) ?_ | refine zR rfl ?_ | refine acellA ?_ | refine zB H b1 rfl ?_ | refine zC H b1 ?_ | refine zB H b2 rfl ?_ | refine zC H b2 ?_ | refine zB H b3 rfl ?_ | refine zC H b3 ?_ | refine zB H b4 rfl ?_ | refine zC H b4 ?_ | (apply zL H; (· repeat first | exact .h | apply AtK.t); (· rfl)) | (apply zA H; (· repeat first | exact .h | apply AtK.t)) | (apply zS H; (· repeat first | exact .h | apply AtK.t); (· rfl); (conv => whnf); clear H; intro τ H) | rw [List.length_map]); ((conv => whnf); (repeat ((first | with_reducible (first | refine zT rfl ?_ | refine zF rfl ?_ | refine zY rfl ?_) | refine zY (by decide) ?_ | refine zN (by decide) ?_ | with_reducible refine zQ ?_); (conv => whnf))))))
    refine acall (sNew [] .full τ (by simp)) ?_
    rintro _ σ2 (⟨h, _⟩ | ⟨_, is, u0, rfl, N⟩)
    · exact (h rfl).elim
    refine ⟨?_, N.ext⟩
    replace H := H.join N
    clear N
    ((conv => whnf); (repeat ((first | with_reducible (first | refine zT rfl ?_ | refine zF rfl ?_ | refine zY rfl ?_) | refine zY (by decide) ?_ | refine zN (by decide) ?_ | with_reducible refine zQ ?_); (conv => whnf))))
    (repeat ((first | refine zI (by omega) ?_ | refine zE (by omega) (by omega) ?_ | refine zD (by omega) (by omega) ?_ | refine zY (by omega) ?_ | refine zN (by omega) ?_ | refine amin ?_ | refine amax ?_ | refine zU (by omega) ?_ | refine z8 (by omega) ?_ | refine zX (by omega) (by omega) ?_ | refine zR rfl ?_ | refine acellA ?_ | refine zB H b1 rfl ?_ | refine zC H b1 ?_ | refine zB H b2 rfl ?_ | refine zC H b2 ?_ | refine zB H b3 rfl ?_ | refine zC H b3 ?_ | refine zB H b4 rfl ?_ | refine zC H b4 ?_ | (apply zL H; (· repeat first | exact .h | apply AtK.t); (· rfl)) | (apply zA H; (· repeat first | exact .h | apply AtK.t)) | (apply zS H; (· repeat first | exact .h | apply AtK.t); (· rfl); (conv => whnf); clear H; intro τ H) | rw [List.length_map]); ((conv => whnf); (repeat ((first | with_reducible (first | refine zT rfl ?_ | refine zF rfl ?_ | refine zY rfl ?_) | refine zY (by decide) ?_ | refine zN (by decide) ?_ | with_reducible refine zQ ?_); (conv => whnf))))))
    refine hnewmap H ?_
    clear H
    intro ig τ H
    ((conv => whnf); (repeat ((first | with_reducible (first | refine zT rfl ?_ | refine zF rfl ?_ | refine zY rfl ?_) | refine zY (by decide) ?_ | refine zN (by decide) ?_ | with_reducible refine zQ ?_); (conv => whnf))))
    (repeat ((first | refine zI (by omega) ?_ | refine zE (by omega) (by omega) ?_ | refine zD (by omega) (by omega) ?_ | refine zY (by omega) ?_ | refine zN (by omega) ?_ | refine amin ?_ | refine amax ?_ | refine zU (by omega) ?_ | refine z8 (by omega) ?_ | refine zX (by omega) (by omega) ?_ | refine zR rfl ?_ | refine acellA ?_ | refine zB H b1 rfl ?_ | refine zC H b1 ?_ | refine zB H b2 rfl ?_ | refine zC H b2 ?_ | refine zB H b3 rfl ?_ | refine zC H b3 ?_ | refine zB H b4 rfl ?_ | refine zC H b4 ?_ | (apply zL H; (· repeat first | exact .h | apply AtK.t); (· rfl)) | (apply zA H; (· repeat first | exact .h | apply AtK.t)) | (apply zS H; (· repeat first | exact .h | apply AtK.t); (· rfl); (conv => whnf); clear H; intro τ H) | rw [List.length_map]); ((conv => whnf); (repeat ((first | with_reducible (first | refine zT rfl ?_ | refine zF rfl ?_ | refine zY rfl ?_) | refine zY (by decide) ?_ | refine zN (by decide) ?_ | with_reducible refine zQ ?_); (conv => whnf))))))
    refine hnew H rfl ?_
    clear H
    intro ip τ H
    ((conv => whnf); (repeat ((first | with_reducible (first | refine zT rfl ?_ | refine zF rfl ?_ | refine zY rfl ?_) | refine zY (by decide) ?_ | refine zN (by decide) ?_ | with_reducible refine zQ ?_); (conv => whnf))))
    (repeat ((first | refine zI (by omega) ?_ | refine zE (by omega) (by omega) ?_ | refine zD (by omega) (by omega) ?_ | refine zY (by omega) ?_ | refine zN (by omega) ?_ | refine amin ?_ | refine amax ?_ | refine zU (by omega) ?_ | refine z8 (by omega) ?_ | refine zX (by omega) (by omega) ?_ | refine zR rfl ?_ | refine acellA ?_ | refine zB H b1 rfl ?_ | refine zC H b1 ?_ | refine zB H b2 rfl ?_ | refine zC H b2 ?_ | refine zB H b3 rfl ?_ | refine zC H b3 ?_ | refine zB H b4 rfl ?_ | refine zC H b4 ?_ | (apply zL H; (· repeat first | exact .h | apply AtK.t); (· rfl)) | (apply zA H; (· repeat first | exact .h | apply AtK.t)) | (apply zS H; (· repeat first | exact .h | apply AtK.t); (· rfl); (conv => whnf); clear H; intro τ H) | rw [List.length_map]); ((conv => whnf); (repeat ((first | with_reducible (first | refine zT rfl ?_ | refine zF rfl ?_ | refine zY rfl ?_) | refine zY (by decide) ?_ | refine zN (by decide) ?_ | with_reducible refine zQ ?_); (conv => whnf))))))
    replace H : Hp σb (.o ip (.cells (peC (.slice 1 [] .full) is (-1) ig 0)) :: .o is (.cells [spL u0 []]) :: .o ig (.map []) :: .o i6 (.cells [i64v p.off, i64v (p.off + (total p.fs : Int))]) :: .o i3 (.cells (amC p)) :: .o ib (.cells (buC im)) :: .o im (.map es) :: ([] ++ G)) τ := H.perm (.cons _ (.swap _ _ _))
    refine acall (peFits (H.get (k := 0) rfl) (H.get (k := 1) rfl) (by have := SOk.nil.k; omega) (spanP p) p.last) ?_
    rintro _ σ_ ⟨rfl, e_⟩
    obtain rfl := e_.symm
    refine ⟨?_, Ext.refl _⟩
    ((conv => whnf); (repeat ((first | with_reducible (first | refine zT rfl ?_ | refine zF rfl ?_ | refine zY rfl ?_) | refine zY (by decide) ?_ | refine zN (by decide) ?_ | with_reducible refine zQ ?_); (conv => whnf))))
    have hk : putK p [] (-1) = if fitsC [] (-1) (spanP p) p.last ≠ 0 then fitsC [] (-1) (spanP p) p.last else addC (spanP p) [] := by unfold putK; rw [if_neg (by rw [hr]; simp), hen]
    by_cases hc : fitsC [] (-1) (spanP p) p.last = 0
    case neg =>
      rw [if_pos hc] at hk
      (repeat ((first | refine zI (by omega) ?_ | refine zE (by omega) (by omega) ?_ | refine zD (by omega) (by omega) ?_ | refine zY (by omega) ?_ | refine zN (by omega) ?_ | refine amin ?_ | refine amax ?_ | refine zU (by omega) ?_ | refine z8 (by omega) ?_ | refine zX (by omega) (by omega) ?_ | refine zR rfl ?_ | refine acellA ?_ | refine zB H b1 rfl ?_ | refine zC H b1 ?_ | refine zB H b2 rfl ?_ | refine zC H b2 ?_ | refine zB H b3 rfl ?_ | refine zC H b3 ?_ | refine zB H b4 rfl ?_ | refine zC H b4 ?_ | (apply zL H; (· repeat first | exact .h | apply AtK.t); (· rfl)) | (apply zA H; (· repeat first | exact .h | apply AtK.t)) | (apply zS H; (· repeat first | exact .h | apply AtK.t); (· rfl); (conv => whnf); clear H; intro τ H) | rw [List.length_map]); ((conv => whnf); (repeat ((first | with_reducible (first | refine zT rfl ?_ | refine zF rfl ?_ | refine zY rfl ?_) | refine zY (by decide) ?_ | refine zN (by decide) ?_ | with_reducible refine zQ ?_); (conv => whnf))))))
      exact aret (VLe.refl _) (Sub.refl _) ⟨by rw [hk], .inl ⟨by rw [hk]; exact hc, Hp.rest (A := [.o ip (.cells (peC (.slice 1 [] .full) is (-1) ig 0)), .o is (.cells [spL u0 []]), .o ig (.map [])] ++ [.o i6 (.cells [i64v p.off, i64v (p.off + (total p.fs : Int))]), .o i3 (.cells (amC p))]) H⟩⟩
    rw [if_neg (by rw [hc]; simp)] at hk
    rw [hc]
    ((conv => whnf); (repeat ((first | with_reducible (first | refine zT rfl ?_ | refine zF rfl ?_ | refine zY rfl ?_) | refine zY (by decide) ?_ | refine zN (by decide) ?_ | with_reducible refine zQ ?_); (conv => whnf))))
    (repeat ((first | refine zI (by omega) ?_ | refine zE (by omega) (by omega) ?_ | refine zD (by omega) (by omega) ?_ | refine zY (by omega) ?_ | refine zN (by omega) ?_ | refine amin ?_ | refine amax ?_ | refine zU (by omega) ?_ | refine z8 (by omega) ?_ | refine zX (by omega) (by omega) ?_ | refine zR rfl ?_ | refine acellA ?_ | refine zB H b1 rfl ?_ | refine zC H b1 ?_ | refine zB H b2 rfl ?_ | refine zC H b2 ?_ | refine zB H b3 rfl ?_ | refine zC H b3 ?_ | refine zB H b4 rfl ?_ | refine zC H b4 ?_ | (apply zL H; (· repeat first | exact .h | apply AtK.t); (· rfl)) | (apply zA H; (· repeat first | exact .h | apply AtK.t)) | (apply zS H; (· repeat first | exact .h | apply AtK.t); (· rfl); (conv => whnf); clear H; intro τ H) | rw [List.length_map]); ((conv => whnf); (repeat ((first | with_reducible (first | refine zT rfl ?_ | refine zF rfl ?_ | refine zY rfl ?_) | refine zY (by decide) ?_ | refine zN (by decide) ?_ | with_reducible refine zQ ?_); (conv => whnf))))))
    refine acall (cloneB (RB.dv (F := [.o ip (.cells (peC (.slice 1 [] .full) is (-1) ig 0)), .o is (.cells [spL u0 []]), .o ig (.map []), .o i6 (.cells [i64v p.off, i64v (p.off + (total p.fs : Int))]), .o i3 (.cells (amC p)), .o ib (.cells (buC im)), .o im (.map es)]) RB.nil H) (by simp)) ?_
    rintro v1 υ ⟨E1, h1, N⟩
    refine ⟨?_, N.ext⟩
    replace H := Hp.mid (A := E1) (B := [.o ip (.cells (peC (.slice 1 [] .full) is (-1) ig 0)), .o is (.cells [spL u0 []]), .o ig (.map []), .o i6 (.cells [i64v p.off, i64v (p.off + (total p.fs : Int))]), .o i3 (.cells (amC p)), .o ib (.cells (buC im)), .o im (.map es)]) (C := ([] : List HE) ++ G) (H.join N)
    replace H : Hp σb (.o ip (.cells (peC (.slice 1 [] .full) is (-1) ig 0)) :: .o is (.cells [spL u0 []]) :: .o ig (.map []) :: .o i6 (.cells [i64v p.off, i64v (p.off + (total p.fs : Int))]) :: .o i3 (.cells (amC p)) :: .o ib (.cells (buC im)) :: .o im (.map es) :: (E1 ++ (([] : List HE) ++ G))) υ := H
    clear N
    ((conv => whnf); (repeat ((first | with_reducible (first | refine zT rfl ?_ | refine zF rfl ?_ | refine zY rfl ?_) | refine zY (by decide) ?_ | refine zN (by decide) ?_ | with_reducible refine zQ ?_); (conv => whnf))))
    (repeat ((first | refine zI (by omega) ?_ | refine zE (by omega) (by omega) ?_ | refine zD (by omega) (by omega) ?_ | refine zY (by omega) ?_ | refine zN (by omega) ?_ | refine amin ?_ | refine amax ?_ | refine zU (by omega) ?_ | refine z8 (by omega) ?_ | refine zX (by omega) (by omega) ?_ | refine zR rfl ?_ | refine acellA ?_ | refine zB H b1 rfl ?_ | refine zC H b1 ?_ | refine zB H b2 rfl ?_ | refine zC H b2 ?_ | refine zB H b3 rfl ?_ | refine zC H b3 ?_ | refine zB H b4 rfl ?_ | refine zC H b4 ?_ | (apply zL H; (· repeat first | exact .h | apply AtK.t); (· rfl)) | (apply zA H; (· repeat first | exact .h | apply AtK.t)) | (apply zS H; (· repeat first | exact .h | apply AtK.t); (· rfl); (conv => whnf); clear H; intro τ H) | rw [List.length_map]); ((conv => whnf); (repeat ((first | with_reducible (first | refine zT rfl ?_ | refine zF rfl ?_ | refine zY rfl ?_) | refine zY (by decide) ?_ | refine zN (by decide) ?_ | with_reducible refine zQ ?_); (conv => whnf))))))
    rw [h1.cells1]
    ((conv => whnf); (repeat ((first | with_reducible (first | refine zT rfl ?_ | refine zF rfl ?_ | refine zY rfl ?_) | refine zY (by decide) ?_ | refine zN (by decide) ?_ | with_reducible refine zQ ?_); (conv => whnf))))
    apply zS H
    · exact .h
    · show (v1.isCell && true) = true
      rw [h1.isCell]; rfl
    (conv => whnf)
    clear H
    intro τ H
    ((conv => whnf); (repeat ((first | with_reducible (first | refine zT rfl ?_ | refine zF rfl ?_ | refine zY rfl ?_) | refine zY (by decide) ?_ | refine zN (by decide) ?_ | with_reducible refine zQ ?_); (conv => whnf))))
    (repeat ((first | refine zI (by omega) ?_ | refine zE (by omega) (by omega) ?_ | refine zD (by omega) (by omega) ?_ | refine zY (by omega) ?_ | refine zN (by omega) ?_ | refine amin ?_ | refine amax ?_ | refine zU (by omega) ?_ | refine z8 (by omega) ?_ | refine zX (by omega) (by omega) ?_ | refine zR rfl ?_ | refine acellA ?_ | refine zB H b1 rfl ?_ | refine zC H b1 ?_ | refine zB H b2 rfl ?_ | refine zC H b2 ?_ | refine zB H b3 rfl ?_ | refine zC H b3 ?_ | refine zB H b4 rfl ?_ | refine zC H b4 ?_ | (apply zL H; (· repeat first | exact .h | apply AtK.t); (· rfl)) | (apply zA H; (· repeat first | exact .h | apply AtK.t)) | (apply zS H; (· repeat first | exact .h | apply AtK.t); (· rfl); (conv => whnf); clear H; intro τ H) | rw [List.length_map]); ((conv => whnf); (repeat ((first | with_reducible (first | refine zT rfl ?_ | refine zF rfl ?_ | refine zY rfl ?_) | refine zY (by decide) ?_ | refine zN (by decide) ?_ | with_reducible refine zQ ?_); (conv => whnf))))))
    replace H : Hp σb (.o ip (.cells (peC v1 is (-1) ig 0)) :: .o is (.cells [spL u0 []]) :: (E1 ++ ([.o ig (.map []), .o i6 (.cells [i64v p.off, i64v (p.off + (total p.fs : Int))]), .o i3 (.cells (amC p)), .o ib (.cells (buC im)), .o im (.map es)] ++ (([] : List HE) ++ G)))) τ :=
      Hp.mid (B := [.o ip (.cells (peC v1 is (-1) ig 0)), .o is (.cells [spL u0 []])]) (Hp.mid (A := [.o ip (.cells (peC v1 is (-1) ig 0)), .o is (.cells [spL u0 []]), .o ig (.map []), .o i6 (.cells [i64v p.off, i64v (p.off + (total p.fs : Int))]), .o i3 (.cells (amC p)), .o ib (.cells (buC im)), .o im (.map es)]) (B := E1) (C := ([] : List HE) ++ G) H)
    refine acall (peFillA h1 H p.off.toNat p.off (by omega) p.fs.flatten hdn (by show p.off.toNat + p.fs.flatten.length ≤ _; omega) (by simp) (by have := SOk.nil.k; omega)) ?_
    clear H h1
    rintro _ τ ⟨rfl, v2, E2, h2, H⟩
    replace H : Hp σb (.o ip (.cells (peC v2 is (-1) ig 0)) :: .o is (.cells [spL u0 []]) :: .o ig (.map []) :: .o i6 (.cells [i64v p.off, i64v (p.off + (total p.fs : Int))]) :: .o i3 (.cells (amC p)) :: .o ib (.cells (buC im)) :: .o im (.map es) :: (E2 ++ (([] : List HE) ++ G))) τ := Hp.mid2 (A := [.o ip (.cells (peC v2 is (-1) ig 0)), .o is (.cells [spL u0 []])]) (B := E2) (C := [.o ig (.map []), .o i6 (.cells [i64v p.off, i64v (p.off + (total p.fs : Int))]), .o i3 (.cells (amC p)), .o ib (.cells (buC im)), .o im (.map es)]) H
    ((conv => whnf); (repeat ((first | with_reducible (first | refine zT rfl ?_ | refine zF rfl ?_ | refine zY rfl ?_) | refine zY (by decide) ?_ | refine zN (by decide) ?_ | with_reducible refine zQ ?_); (conv => whnf))))
    (repeat ((first | refine zI (by omega) ?_ | refine zE (by omega) (by omega) ?_ | refine zD (by omega) (by omega) ?_ | refine zY (by omega) ?_ | refine zN (by omega) ?_ | refine amin ?_ | refine amax ?_ | refine zU (by omega) ?_ | refine z8 (by omega) ?_ | refine zX (by omega) (by omega) ?_ | refine zR rfl ?_ | refine acellA ?_ | refine zB H b1 rfl ?_ | refine zC H b1 ?_ | refine zB H b2 rfl ?_ | refine zC H b2 ?_ | refine zB H b3 rfl ?_ | refine zC H b3 ?_ | refine zB H b4 rfl ?_ | refine zC H b4 ?_ | (apply zL H; (· repeat first | exact .h | apply AtK.t); (· rfl)) | (apply zA H; (· repeat first | exact .h | apply AtK.t)) | (apply zS H; (· repeat first | exact .h | apply AtK.t); (· rfl); (conv => whnf); clear H; intro τ H) | rw [List.length_map]); ((conv => whnf); (repeat ((first | with_reducible (first | refine zT rfl ?_ | refine zF rfl ?_ | refine zY rfl ?_) | refine zY (by decide) ?_ | refine zN (by decide) ?_ | with_reducible refine zQ ?_); (conv => whnf))))))
    refine acall (sAdd (H.perm (.swap _ _ _)) (spanP p) (by have := SOk.nil.k; omega)) ?_
    clear H
    rintro _ τ ⟨rfl, u, H⟩
    replace H : Hp σb (.o is (.cells [spL u (addS (spanP p) [])]) :: .o ip (.cells (peC v2 is (-1) ig 0)) :: .o ig (.map []) :: .o i6 (.cells [i64v p.off, i64v (p.off + (total p.fs : Int))]) :: .o i3 (.cells (amC p)) :: .o ib (.cells (buC im)) :: .o im (.map es) :: (E2 ++ (([] : List HE) ++ G))) τ := H
    ((conv => whnf); (repeat ((first | with_reducible (first | refine zT rfl ?_ | refine zF rfl ?_ | refine zY rfl ?_) | refine zY (by decide) ?_ | refine zN (by decide) ?_ | with_reducible refine zQ ?_); (conv => whnf))))
    by_cases ha : addC (spanP p) [] = 0
    case neg =>
      rw [add_no ha] at H
      (repeat ((first | refine zI (by omega) ?_ | refine zE (by omega) (by omega) ?_ | refine zD (by omega) (by omega) ?_ | refine zY (by omega) ?_ | refine zN (by omega) ?_ | refine amin ?_ | refine amax ?_ | refine zU (by omega) ?_ | refine z8 (by omega) ?_ | refine zX (by omega) (by omega) ?_ | refine zR rfl ?_ | refine acellA ?_ | refine zB H b1 rfl ?_ | refine zC H b1 ?_ | refine zB H b2 rfl ?_ | refine zC H b2 ?_ | refine zB H b3 rfl ?_ | refine zC H b3 ?_ | refine zB H b4 rfl ?_ | refine zC H b4 ?_ | (apply zL H; (· repeat first | exact .h | apply AtK.t); (· rfl)) | (apply zA H; (· repeat first | exact .h | apply AtK.t)) | (apply zS H; (· repeat first | exact .h | apply AtK.t); (· rfl); (conv => whnf); clear H; intro τ H) | rw [List.length_map]); ((conv => whnf); (repeat ((first | with_reducible (first | refine zT rfl ?_ | refine zF rfl ?_ | refine zY rfl ?_) | refine zY (by decide) ?_ | refine zN (by decide) ?_ | with_reducible refine zQ ?_); (conv => whnf))))))
      have H := Hp.rest (A := E2) (Hp.mid (A := [.o is (.cells [spL u []]), .o ip (.cells (peC (.slice 1 [] .full) is (-1) ig 0)), .o ig (.map []), .o i6 (.cells [i64v p.off, i64v (p.off + (total p.fs : Int))]), .o i3 (.cells (amC p)), .o ib (.cells (buC im)), .o im (.map es)]) (B := E2) H)
      (repeat ((first | refine zI (by omega) ?_ | refine zE (by omega) (by omega) ?_ | refine zD (by omega) (by omega) ?_ | refine zY (by omega) ?_ | refine zN (by omega) ?_ | refine amin ?_ | refine amax ?_ | refine zU (by omega) ?_ | refine z8 (by omega) ?_ | refine zX (by omega) (by omega) ?_ | refine zR rfl ?_ | refine acellA ?_ | refine zB H b1 rfl ?_ | refine zC H b1 ?_ | refine zB H b2 rfl ?_ | refine zC H b2 ?_ | refine zB H b3 rfl ?_ | refine zC H b3 ?_ | refine zB H b4 rfl ?_ | refine zC H b4 ?_ | (apply zL H; (· repeat first | exact .h | apply AtK.t); (· rfl)) | (apply zA H; (· repeat first | exact .h | apply AtK.t)) | (apply zS H; (· repeat first | exact .h | apply AtK.t); (· rfl); (conv => whnf); clear H; intro τ H) | rw [List.length_map]); ((conv => whnf); (repeat ((first | with_reducible (first | refine zT rfl ?_ | refine zF rfl ?_ | refine zY rfl ?_) | refine zY (by decide) ?_ | refine zN (by decide) ?_ | with_reducible refine zQ ?_); (conv => whnf))))))
      exact aret (VLe.refl _) (Sub.refl _) ⟨by rw [hk], .inl ⟨by rw [hk]; exact ha, Hp.rest (A := [.o is (.cells [spL u []]), .o ip (.cells (peC (.slice 1 [] .full) is (-1) ig 0)), .o ig (.map [])] ++ [.o i6 (.cells [i64v p.off, i64v (p.off + (total p.fs : Int))]), .o i3 (.cells (amC p))]) H⟩⟩
    rw [ha]
    ((conv => whnf); (repeat ((first | with_reducible (first | refine zT rfl ?_ | refine zF rfl ?_ | refine zY rfl ?_) | refine zY (by decide) ?_ | refine zN (by decide) ?_ | with_reducible refine zQ ?_); (conv => whnf))))
    (repeat ((first | refine zI (by omega) ?_ | refine zE (by omega) (by omega) ?_ | refine zD (by omega) (by omega) ?_ | refine zY (by omega) ?_ | refine zN (by omega) ?_ | refine amin ?_ | refine amax ?_ | refine zU (by omega) ?_ | refine z8 (by omega) ?_ | refine zX (by omega) (by omega) ?_ | refine zR rfl ?_ | refine acellA ?_ | refine zB H b1 rfl ?_ | refine zC H b1 ?_ | refine zB H b2 rfl ?_ | refine zC H b2 ?_ | refine zB H b3 rfl ?_ | refine zC H b3 ?_ | refine zB H b4 rfl ?_ | refine zC H b4 ?_ | (apply zL H; (· repeat first | exact .h | apply AtK.t); (· rfl)) | (apply zA H; (· repeat first | exact .h | apply AtK.t)) | (apply zS H; (· repeat first | exact .h | apply AtK.t); (· rfl); (conv => whnf); clear H; intro τ H) | rw [List.length_map]); ((conv => whnf); (repeat ((first | with_reducible (first | refine zT rfl ?_ | refine zF rfl ?_ | refine zY rfl ?_) | refine zY (by decide) ?_ | refine zN (by decide) ?_ | with_reducible refine zQ ?_); (conv => whnf))))))
    replace H : Hp σb (.o ip (.cells (peC v2 is (-1) ig 0)) :: .o ig (.map []) :: .o is (.cells [spL u (addS (spanP p) [])]) :: (.o i6 (.cells [i64v p.off, i64v (p.off + (total p.fs : Int))]) :: .o i3 (.cells (amC p)) :: .o ib (.cells (buC im)) :: .o im (.map es) :: (E2 ++ (([] : List HE) ++ G)))) τ := H.perm (.trans (.swap _ _ _) (.cons _ (.swap _ _ _)))
    refine acall (peNote H h2.isCell p p.last (by omega) (by omega) (by omega)) ?_
    clear H
    rintro _ τ ⟨rfl, H⟩
    ((conv => whnf); (repeat ((first | with_reducible (first | refine zT rfl ?_ | refine zF rfl ?_ | refine zY rfl ?_) | refine zY (by decide) ?_ | refine zN (by decide) ?_ | with_reducible refine zQ ?_); (conv => whnf))))
    (repeat ((first | refine zI (by omega) ?_ | refine zE (by omega) (by omega) ?_ | refine zD (by omega) (by omega) ?_ | refine zY (by omega) ?_ | refine zN (by omega) ?_ | refine amin ?_ | refine amax ?_ | refine zU (by omega) ?_ | refine z8 (by omega) ?_ | refine zX (by omega) (by omega) ?_ | refine zR rfl ?_ | refine acellA ?_ | refine zB H b1 rfl ?_ | refine zC H b1 ?_ | refine zB H b2 rfl ?_ | refine zC H b2 ?_ | refine zB H b3 rfl ?_ | refine zC H b3 ?_ | refine zB H b4 rfl ?_ | refine zC H b4 ?_ | (apply zL H; (· repeat first | exact .h | apply AtK.t); (· rfl)) | (apply zA H; (· repeat first | exact .h | apply AtK.t)) | (apply zS H; (· repeat first | exact .h | apply AtK.t); (· rfl); (conv => whnf); clear H; intro τ H) | rw [List.length_map]); ((conv => whnf); (repeat ((first | with_reducible (first | refine zT rfl ?_ | refine zF rfl ?_ | refine zY rfl ?_) | refine zY (by decide) ?_ | refine zN (by decide) ?_ | with_reducible refine zQ ?_); (conv => whnf))))))
    apply zMs H
    · (repeat first | exact .h | apply AtK.t)
    · rfl
    (conv => whnf)
    clear H
    intro τ H
    ((conv => whnf); (repeat ((first | with_reducible (first | refine zT rfl ?_ | refine zF rfl ?_ | refine zY rfl ?_) | refine zY (by decide) ?_ | refine zN (by decide) ?_ | with_reducible refine zQ ?_); (conv => whnf))))
    rw [mapSet_new hf] at H
    (repeat ((first | refine zI (by omega) ?_ | refine zE (by omega) (by omega) ?_ | refine zD (by omega) (by omega) ?_ | refine zY (by omega) ?_ | refine zN (by omega) ?_ | refine amin ?_ | refine amax ?_ | refine zU (by omega) ?_ | refine z8 (by omega) ?_ | refine zX (by omega) (by omega) ?_ | refine zR rfl ?_ | refine acellA ?_ | refine zB H b1 rfl ?_ | refine zC H b1 ?_ | refine zB H b2 rfl ?_ | refine zC H b2 ?_ | refine zB H b3 rfl ?_ | refine zC H b3 ?_ | refine zB H b4 rfl ?_ | refine zC H b4 ?_ | (apply zL H; (· repeat first | exact .h | apply AtK.t); (· rfl)) | (apply zA H; (· repeat first | exact .h | apply AtK.t)) | (apply zS H; (· repeat first | exact .h | apply AtK.t); (· rfl); (conv => whnf); clear H; intro τ H) | rw [List.length_map]); ((conv => whnf); (repeat ((first | with_reducible (first | refine zT rfl ?_ | refine zF rfl ?_ | refine zY rfl ?_) | refine zY (by decide) ?_ | refine zN (by decide) ?_ | with_reducible refine zQ ?_); (conv => whnf))))))
    rw [hen]
    exact aret (VLe.refl _) (Sub.refl _) ⟨by rw [hk, ha], .inr ⟨by rw [hk, ha], ⟨ip, is, ig, v2, E2, u, h2, (Hp.rest (A := [.o i6 (.cells [i64v p.off, i64v (p.off + (total p.fs : Int))]), .o i3 (.cells (amC p))]) (Hp.mid (A := [.o ip (.cells (peC v2 is (noteE p p.last (-1)) ig (noteF p p.last 0))), .o ig (.map (noteM p p.last [])), .o is (.cells [spL u (addS (spanP p) [])])]) (B := [.o i6 (.cells [i64v p.off, i64v (p.off + (total p.fs : Int))]), .o i3 (.cells (amC p))]) (C := .o ib (.cells (buC im)) :: .o im (.map (es ++ [(p.sn, AVal.ptr ip 0)])) :: (E2 ++ G)) H)).perm (.cons _ (.swap _ _ _))⟩⟩⟩
end
end Go.Proofs.Ytgobbmdbkmjlnaa
/-
  Views of rows of bytes that (repeat ((first | refine aload (by (repeat (first | with_reducible exact upd_same _ _ _ | assumption | rw [upd_ne _ _ (by first | assumption | (apply Ne.symm; assumption))]))) rfl ?_ | refine afit_i64 (by omega) ?_ | refine arem_nonneg (by omega) (by omega) ?_ | refine adiv_i64 (by omega) (by omega) ?_ | refine abr_yes (by omega) ?_ | refine abr_no (by omega) ?_ | refine amin ?_ | refine amax ?_ | refine afit_u64 (by omega) ?_ | refine afit_u8 (by omega) ?_ | rw [List.length_map]); ((conv => whnf); (repeat ((first | with_reducible (first | refine zT rfl ?_ | refine zF rfl ?_ | refine zY rfl ?_) | refine zY (by decide) ?_ | refine zN (by decide) ?_ | with_reducible refine zQ ?_); (conv => whnf)))))) on being stored into: cut, and copied.
-/
namespace Go.Proofs.Ytgobbmdbkmjlnaa
set_option linter.unusedVariables false
set_option linter.unusedSimpArgs false
open Go Go.Am

/-- A view of a row's bytes, of which some may lie ahead or behind. -/
def MsV (σ : AHeap) (r off : Nat) (b : List UInt8) : Prop := ∃ bs : List UInt8, σ r = some (.cells (bs.map byteV)) ∧ off + b.length ≤ bs.length ∧ (bs.drop off).take b.length = b
theorem MsV.sub {σ σ' : AHeap} {r off : Nat} {b : List UInt8} (h : MsV σ r off b) (k : Sub σ' σ) : MsV σ' r off b := by
  obtain ⟨bs, h1, h2, h3⟩ := h; exact ⟨bs, k _ _ h1, h2, h3⟩
theorem MsV.cut {σ : AHeap} {r off : Nat} {b : List UInt8} (h : MsV σ r off b) {l n : Nat} (hn : l ≤ n) (hl : n ≤ b.length) : MsV σ r (off + l) ((b.take n).drop l) := by
  obtain ⟨bs, h1, h2, h3⟩ := h
  have hlen : ((b.take n).drop l).length = n - l := by rw [List.length_drop, List.length_take]; omega
  refine ⟨bs, h1, by omega, ?_⟩
  rw [hlen]
  conv => rhs; rw [← h3]
  rw [List.take_take, Nat.min_eq_left hl, List.drop_take, List.drop_drop]
theorem CloneW (r off : Nat) (b : List UInt8) (σ : AHeap) (hs : MsV σ r off b) (hl : b.length ≤ 140737488355328) : ACalls Try.prog i_slices_Clone_byte_byte [.ms r 1 off b.length] σ fun v σ' => ∃ tk, Owned σ σ' tk ∧ v = sl tk b := by
  obtain ⟨bs, h1, h2, h3⟩ := hs
  refine k_slices_Clone_byte_byte rfl ?_
  ((conv => whnf); (repeat ((first | with_reducible (first | refine zT rfl ?_ | refine zF rfl ?_ | refine zY rfl ?_) | refine zY (by decide) ?_ | refine zN (by decide) ?_ | with_reducible refine zQ ?_); (conv => whnf))))
  refine ⟨⟨_, h1, by rw [List.length_map]; omega, ?_⟩⟩
  rw [← List.map_drop, ← List.map_take, h3]
  refine aapp_full (by rw [List.length_map]; simp; omega) fun t' ht' => ?_
  ((conv => whnf); (repeat ((first | with_reducible (first | refine zT rfl ?_ | refine zF rfl ?_ | refine zY rfl ?_) | refine zY (by decide) ?_ | refine zN (by decide) ?_ | with_reducible refine zQ ?_); (conv => whnf))))
  exact aret_same ⟨_, .tip ht', rfl⟩
/-- Bytes that are given: as they are, or as a view of a row. -/
def Src (σ : AHeap) (v : AVal) (b : List UInt8) : Prop := (∃ t, v = sl t b) ∨ ∃ r off, v = .ms r 1 off b.length ∧ MsV σ r off b
theorem Src.sub {σ σ' : AHeap} {v : AVal} {b : List UInt8} (h : Src σ v b) (k : Sub σ' σ) : Src σ' v b := by
  rcases h with h | ⟨r, off, h, m⟩
  · exact .inl h
  · exact .inr ⟨r, off, h, m.sub k⟩
theorem acutm {σ : AHeap} {r off l n : Nat} {b : List UInt8} {K : AVal → Prop} (hs : MsV σ r off b) (hl : l ≤ n) (hn : n ≤ b.length) (h : ∀ v, Src σ v ((b.take n).drop l) → K v) : ACutM r 1 off l n K := by
  have hlen : ((b.take n).drop l).length = n - l := by rw [List.length_drop, List.length_take]; omega
  refine ⟨?_⟩
  by_cases e : l < n
  · refine .inl ⟨e, h _ (.inr ⟨r, off + l, by rw [hlen, Nat.mul_one], hs.cut hl hn⟩)⟩
  · refine .inr (.inr ⟨by omega, h _ (.inl ⟨.none, ?_⟩)⟩)
    rw [List.length_eq_zero_iff.1 (by omega : ((b.take n).drop l).length = 0)]; rfl
theorem CloneS (v : AVal) (b : List UInt8) (σ : AHeap) (hs : Src σ v b) (hl : b.length ≤ 140737488355328) : ACalls Try.prog i_slices_Clone_byte_byte [v] σ fun v σ' => ∃ tk, Owned σ σ' tk ∧ v = sl tk b := by
  rcases hs with ⟨t, rfl⟩ | ⟨r, off, rfl, m⟩
  · exact Clone b _ _ hl
  · exact CloneW r off b σ m hl
end Go.Proofs.Ytgobbmdbkmjlnaa
/-
  What came in parts: what is missing, and what is taken.
-/
namespace Go.Proofs.Ytgobbmdbkmjlnaa
set_option linter.unusedVariables false
set_option linter.unusedSimpArgs false
set_option maxRecDepth 20000
open Go Go.Am

theorem get_intsI {l : List Int} {i : Nat} (h : i < l.length) : (l.map i64v)[((i : Nat) : Int).toNat]? = some (i64v l[i]) := by
  rw [Int.toNat_natCast, List.getElem?_map, List.getElem?_eq_getElem h]; rfl
/-- Is a place an edge? -/
def hasE (em : List (Int × AVal)) (k : Int) : Bool := (em.find? fun e => e.1 == k).isSome
def AllT (em : List (Int × AVal)) : Prop := ∀ x ∈ em, x.2 = trueV
theorem look_edge {em : List (Int × AVal)} (h : AllT em) (k : Int) : (((em.find? fun e => e.1 == k).map (·.2)).getD (.v (.bool false))) = boolv (hasE em k) := by
  unfold hasE
  cases hf : em.find? fun e => e.1 == k with
  | none => rfl
  | some x => rw [Option.map_some, Option.getD_some, h x (List.mem_of_find?_eq_some hf)]; rfl
theorem AllT.set : ∀ {em : List (Int × AVal)} {k : Int}, AllT em → AllT (mapSet em k trueV)
  | [], k, _ => fun x hx => by simp [mapSet] at hx; rw [hx]
  | (m, y) :: r, k, h => by
    intro x hx
    by_cases hm : m = k
    · simp [mapSet, hm] at hx
      rcases hx with rfl | hx
      · rfl
      · exact h x (List.mem_cons_of_mem _ hx)
    · simp [mapSet, hm] at hx
      rcases hx with rfl | hx
      · exact h _ (List.mem_cons_self ..)
      · exact AllT.set (fun z hz => h z (List.mem_cons_of_mem _ hz)) x hx
theorem hasE_set : ∀ {em : List (Int × AVal)} {k j : Int}, hasE (mapSet em k trueV) j = (decide (j = k) || hasE em j)
  | [], k, j => by
    by_cases h : j = k
    · subst h; simp [mapSet, hasE]
    · simp [mapSet, hasE, h, Ne.symm h]
  | (m, y) :: r, k, j => by
    have ih := hasE_set (em := r) (k := k) (j := j)
    by_cases hm : m = k
    · subst hm
      by_cases h : j = m
      · subst h; simp [mapSet, hasE]
      · simp [mapSet, hasE, h, Ne.symm h]
    · by_cases h : m = j
      · subst h; simp [mapSet, hasE, hm]
      · have hb : (m == j) = false := by simp [h]
        have e1 : mapSet ((m, y) :: r) k trueV = (m, y) :: mapSet r k trueV := by simp [mapSet, hm]
        unfold hasE at ih ⊢
        rw [e1, List.find?_cons, List.find?_cons]
        dsimp only
        rw [hb]
        exact ih
theorem AllT.noteN {p : Pk} {em : List (Int × AVal)} (h : AllT em) : ∀ k, AllT (noteN p em k)
  | 0 => h
  | k + 1 => by
    rw [show Go.Proofs.Ytgobbmdbkmjlnaa.noteN p em (k + 1) = if k > 0 then mapSet (Go.Proofs.Ytgobbmdbkmjlnaa.noteN p em k) (p.off + (total (p.fs.take k) : Int)) trueV else Go.Proofs.Ytgobbmdbkmjlnaa.noteN p em k from rfl]
    split
    · exact (AllT.noteN h k).set
    · exact AllT.noteN h k
theorem AllT.noteM {p : Pk} {ends : Bool} {em : List (Int × AVal)} (h : AllT em) : AllT (noteM p ends em) := by
  have h1 : AllT (note1 p em) := by
    unfold note1
    split
    · exact h
    · split
      · exact h.set
      · exact h
  unfold Go.Proofs.Ytgobbmdbkmjlnaa.noteM
  split
  · exact h1.noteN _
  · split
    · exact (h1.noteN _).set
    · exact h1.noteN _
/-- The fields so far, and where the next one begins. -/
def takeN (D : List UInt8) (em : List (Int × AVal)) (e : Int) : Nat → List (List UInt8) × Nat
  | 0 => ([], 0)
  | k + 1 => if ((k : Int) + 1 = e ∨ hasE em ((k : Int) + 1) = true) then ((takeN D em e k).1 ++ [(D.take (k + 1)).drop (takeN D em e k).2], k + 1) else takeN D em e k
theorem takeN_le (D : List UInt8) (em : List (Int × AVal)) (e : Int) : ∀ k, (takeN D em e k).2 ≤ k ∧ (takeN D em e k).1.length ≤ k
  | 0 => ⟨Nat.le_refl _, Nat.le_refl _⟩
  | k + 1 => by
    obtain ⟨h1, h2⟩ := takeN_le D em e k
    unfold takeN
    split
    · refine ⟨Nat.le_refl _, ?_⟩
      rw [List.length_append, List.length_singleton]; omega
    · exact ⟨by omega, by omega⟩

section
variable {σb σ : AHeap} {ib im ip is ig : Nat} {e fi : Int} {l : List Sp} {tk : Tok} {v : AVal} {D : List UInt8} {em es : List (Int × AVal)} {E G : List HE}
theorem topL_range (h : SOk l) : 0 ≤ topL l ∧ topL l ≤ 65536 := by
  unfold topL
  rcases snoc_cases l with rfl | ⟨r, z, rfl⟩
  · exact ⟨by decide, by decide⟩
  · rw [List.getLast?_concat]
    have := h.mem z (by simp)
    dsimp only
    omega
theorem gapsV_len {to : Int} : (gapsV to l).length ≤ l.length + 1 := by
  unfold gapsV
  split
  · exact gapsL_len
  · simp
theorem buMissing (b1 : σ ib = some (.cells (buC im))) (b2 : σ im = some (.map es)) (sn : Int) (he : es.find? (fun e => e.1 == sn) = some (sn, .ptr ip 0)) (b3 : σ ip = some (.cells (peC v is e ig fi))) (b4 : σ is = some (.cells [spL tk l])) (hs : SOk l) :
    ACalls Try.prog i_rxbuf_Buffer_Missing [.ptr ib 0, i64v sn] σ fun r σ' => ∃ u, Owned σ σ' u ∧ r = spL u (missL l e) := by
  refine k_rxbuf_Buffer_Missing rfl ?_
  have H := Hp.nil σ
  ((conv => whnf); (repeat ((first | with_reducible (first | refine zT rfl ?_ | refine zF rfl ?_ | refine zY rfl ?_) | refine zY (by decide) ?_ | refine zN (by decide) ?_ | with_reducible refine zQ ?_); (conv => whnf))))
  refine acall (buFind b1 b2 sn he) ?_
  rintro _ σ_ ⟨rfl, e_⟩
  obtain rfl := e_.symm
  refine ⟨?_, Ext.refl _⟩
  ((conv => whnf); (repeat ((first | with_reducible (first | refine zT rfl ?_ | refine zF rfl ?_ | refine zY rfl ?_) | refine zY (by decide) ?_ | refine zN (by decide) ?_ | with_reducible refine zQ ?_); (conv => whnf))))
  (repeat ((first | refine zI (by omega) ?_ | refine zE (by omega) (by omega) ?_ | refine zD (by omega) (by omega) ?_ | refine zY (by omega) ?_ | refine zN (by omega) ?_ | refine amin ?_ | refine amax ?_ | refine zU (by omega) ?_ | refine z8 (by omega) ?_ | refine zX (by omega) (by omega) ?_ | refine zR rfl ?_ | refine acellA ?_ | refine zB H b1 rfl ?_ | refine zC H b1 ?_ | refine zB H b2 rfl ?_ | refine zC H b2 ?_ | refine zB H b3 rfl ?_ | refine zC H b3 ?_ | refine zB H b4 rfl ?_ | refine zC H b4 ?_ | (apply zL H; (· repeat first | exact .h | apply AtK.t); (· rfl)) | (apply zA H; (· repeat first | exact .h | apply AtK.t)) | (apply zS H; (· repeat first | exact .h | apply AtK.t); (· rfl); (conv => whnf); clear H; intro τ H) | rw [List.length_map]); ((conv => whnf); (repeat ((first | with_reducible (first | refine zT rfl ?_ | refine zF rfl ?_ | refine zY rfl ?_) | refine zY (by decide) ?_ | refine zN (by decide) ?_ | with_reducible refine zQ ?_); (conv => whnf))))))
  unfold missL
  by_cases h : e = -1
  · rw [if_neg (fun k => k h)]
    (repeat ((first | refine zI (by omega) ?_ | refine zE (by omega) (by omega) ?_ | refine zD (by omega) (by omega) ?_ | refine zY (by omega) ?_ | refine zN (by omega) ?_ | refine amin ?_ | refine amax ?_ | refine zU (by omega) ?_ | refine z8 (by omega) ?_ | refine zX (by omega) (by omega) ?_ | refine zR rfl ?_ | refine acellA ?_ | refine zB H b1 rfl ?_ | refine zC H b1 ?_ | refine zB H b2 rfl ?_ | refine zC H b2 ?_ | refine zB H b3 rfl ?_ | refine zC H b3 ?_ | refine zB H b4 rfl ?_ | refine zC H b4 ?_ | (apply zL H; (· repeat first | exact .h | apply AtK.t); (· rfl)) | (apply zA H; (· repeat first | exact .h | apply AtK.t)) | (apply zS H; (· repeat first | exact .h | apply AtK.t); (· rfl); (conv => whnf); clear H; intro τ H) | rw [List.length_map]); ((conv => whnf); (repeat ((first | with_reducible (first | refine zT rfl ?_ | refine zF rfl ?_ | refine zY rfl ?_) | refine zY (by decide) ?_ | refine zN (by decide) ?_ | with_reducible refine zQ ?_); (conv => whnf))))))
    refine acall (peTop b3 b4 hs.mid) ?_
    rintro _ σ_ ⟨rfl, e_⟩
    obtain rfl := e_.symm
    refine ⟨?_, Ext.refl _⟩
    ((conv => whnf); (repeat ((first | with_reducible (first | refine zT rfl ?_ | refine zF rfl ?_ | refine zY rfl ?_) | refine zY (by decide) ?_ | refine zN (by decide) ?_ | with_reducible refine zQ ?_); (conv => whnf))))
    refine acall (sGaps b4 hs (topL l)) ?_
    rintro _ τ ⟨u, hu, rfl⟩
    refine ⟨?_, hu.ext⟩
    have H := H.owned hu
    ((conv => whnf); (repeat ((first | with_reducible (first | refine zT rfl ?_ | refine zF rfl ?_ | refine zY rfl ?_) | refine zY (by decide) ?_ | refine zN (by decide) ?_ | with_reducible refine zQ ?_); (conv => whnf))))
    refine acall (peTop (H.sub _ _ b3) (H.sub _ _ b4) hs.mid) ?_
    rintro _ σ_ ⟨rfl, e_⟩
    obtain rfl := e_.symm
    refine ⟨?_, Ext.refl _⟩
    ((conv => whnf); (repeat ((first | with_reducible (first | refine zT rfl ?_ | refine zF rfl ?_ | refine zY rfl ?_) | refine zY (by decide) ?_ | refine zN (by decide) ?_ | with_reducible refine zQ ?_); (conv => whnf))))
    have hg := gapsV_len (l := l) (to := topL l)
    have hk := hs.k
    (repeat ((first | refine zI (by omega) ?_ | refine zE (by omega) (by omega) ?_ | refine zD (by omega) (by omega) ?_ | refine zY (by omega) ?_ | refine zN (by omega) ?_ | refine amin ?_ | refine amax ?_ | refine zU (by omega) ?_ | refine z8 (by omega) ?_ | refine zX (by omega) (by omega) ?_ | refine zR rfl ?_ | refine acellA ?_ | refine zB H b1 rfl ?_ | refine zC H b1 ?_ | refine zB H b2 rfl ?_ | refine zC H b2 ?_ | refine zB H b3 rfl ?_ | refine zC H b3 ?_ | refine zB H b4 rfl ?_ | refine zC H b4 ?_ | (apply zL H; (· repeat first | exact .h | apply AtK.t); (· rfl)) | (apply zA H; (· repeat first | exact .h | apply AtK.t)) | (apply zS H; (· repeat first | exact .h | apply AtK.t); (· rfl); (conv => whnf); clear H; intro τ H) | rw [List.length_map]); ((conv => whnf); (repeat ((first | with_reducible (first | refine zT rfl ?_ | refine zF rfl ?_ | refine zY rfl ?_) | refine zY (by decide) ?_ | refine zN (by decide) ?_ | with_reducible refine zQ ?_); (conv => whnf))))))
    apply zP H
    · (repeat first | exact .h | apply AtK.t)
    · exact (by rw [List.length_map]; show (_ + 1) * 16 ≤ _; omega)
    intro tk2
    (conv => whnf)
    clear H
    intro τ H
    ((conv => whnf); (repeat ((first | with_reducible (first | refine zT rfl ?_ | refine zF rfl ?_ | refine zY rfl ?_) | refine zY (by decide) ?_ | refine zN (by decide) ?_ | with_reducible refine zQ ?_); (conv => whnf))))
    rw [show [AVal.agg [i64v (topL l), AVal.v (.int .i64 0)]] = [spV (topL l, 0)] from rfl, sp_snoc]
    ((conv => whnf); (repeat ((first | with_reducible (first | refine zT rfl ?_ | refine zF rfl ?_ | refine zY rfl ?_) | refine zY (by decide) ?_ | refine zN (by decide) ?_ | with_reducible refine zQ ?_); (conv => whnf))))
    (repeat ((first | refine zI (by omega) ?_ | refine zE (by omega) (by omega) ?_ | refine zD (by omega) (by omega) ?_ | refine zY (by omega) ?_ | refine zN (by omega) ?_ | refine amin ?_ | refine amax ?_ | refine zU (by omega) ?_ | refine z8 (by omega) ?_ | refine zX (by omega) (by omega) ?_ | refine zR rfl ?_ | refine acellA ?_ | refine zB H b1 rfl ?_ | refine zC H b1 ?_ | refine zB H b2 rfl ?_ | refine zC H b2 ?_ | refine zB H b3 rfl ?_ | refine zC H b3 ?_ | refine zB H b4 rfl ?_ | refine zC H b4 ?_ | (apply zL H; (· repeat first | exact .h | apply AtK.t); (· rfl)) | (apply zA H; (· repeat first | exact .h | apply AtK.t)) | (apply zS H; (· repeat first | exact .h | apply AtK.t); (· rfl); (conv => whnf); clear H; intro τ H) | rw [List.length_map]); ((conv => whnf); (repeat ((first | with_reducible (first | refine zT rfl ?_ | refine zF rfl ?_ | refine zY rfl ?_) | refine zY (by decide) ?_ | refine zN (by decide) ?_ | with_reducible refine zQ ?_); (conv => whnf))))))
    obtain ⟨σ2, q1, q2⟩ := H.toOwned
    exact aret (VLe.refl _) q2 ⟨tk2, q1, rfl⟩
  · rw [if_pos h]
    (repeat ((first | refine zI (by omega) ?_ | refine zE (by omega) (by omega) ?_ | refine zD (by omega) (by omega) ?_ | refine zY (by omega) ?_ | refine zN (by omega) ?_ | refine amin ?_ | refine amax ?_ | refine zU (by omega) ?_ | refine z8 (by omega) ?_ | refine zX (by omega) (by omega) ?_ | refine zR rfl ?_ | refine acellA ?_ | refine zB H b1 rfl ?_ | refine zC H b1 ?_ | refine zB H b2 rfl ?_ | refine zC H b2 ?_ | refine zB H b3 rfl ?_ | refine zC H b3 ?_ | refine zB H b4 rfl ?_ | refine zC H b4 ?_ | (apply zL H; (· repeat first | exact .h | apply AtK.t); (· rfl)) | (apply zA H; (· repeat first | exact .h | apply AtK.t)) | (apply zS H; (· repeat first | exact .h | apply AtK.t); (· rfl); (conv => whnf); clear H; intro τ H) | rw [List.length_map]); ((conv => whnf); (repeat ((first | with_reducible (first | refine zT rfl ?_ | refine zF rfl ?_ | refine zY rfl ?_) | refine zY (by decide) ?_ | refine zN (by decide) ?_ | with_reducible refine zQ ?_); (conv => whnf))))))
    refine acall (sGaps b4 hs e) ?_
    rintro _ τ ⟨u, hu, rfl⟩
    refine ⟨?_, hu.ext⟩
    ((conv => whnf); (repeat ((first | with_reducible (first | refine zT rfl ?_ | refine zF rfl ?_ | refine zY rfl ?_) | refine zY (by decide) ?_ | refine zN (by decide) ?_ | with_reducible refine zQ ?_); (conv => whnf))))
    exact aret (VLe.refl _) (Sub.refl _) ⟨u, hu, rfl⟩
theorem buMissingNone (b1 : σ ib = some (.cells (buC im))) (b2 : σ im = some (.map es)) (sn : Int) (he : es.find? (fun e => e.1 == sn) = none) :
    ACalls Try.prog i_rxbuf_Buffer_Missing [.ptr ib 0, i64v sn] σ fun r σ' => r = spL .full [] ∧ σ' = σ := by
  refine k_rxbuf_Buffer_Missing rfl ?_
  have H := Hp.nil σ
  ((conv => whnf); (repeat ((first | with_reducible (first | refine zT rfl ?_ | refine zF rfl ?_ | refine zY rfl ?_) | refine zY (by decide) ?_ | refine zN (by decide) ?_ | with_reducible refine zQ ?_); (conv => whnf))))
  refine acall (buNone b1 b2 sn he) ?_
  rintro _ σ_ ⟨rfl, e_⟩
  obtain rfl := e_.symm
  refine ⟨?_, Ext.refl _⟩
  ((conv => whnf); (repeat ((first | with_reducible (first | refine zT rfl ?_ | refine zF rfl ?_ | refine zY rfl ?_) | refine zY (by decide) ?_ | refine zN (by decide) ?_ | with_reducible refine zQ ?_); (conv => whnf))))
  (repeat ((first | refine zI (by omega) ?_ | refine zE (by omega) (by omega) ?_ | refine zD (by omega) (by omega) ?_ | refine zY (by omega) ?_ | refine zN (by omega) ?_ | refine amin ?_ | refine amax ?_ | refine zU (by omega) ?_ | refine z8 (by omega) ?_ | refine zX (by omega) (by omega) ?_ | refine zR rfl ?_ | refine acellA ?_ | refine zB H b1 rfl ?_ | refine zC H b1 ?_ | refine zB H b2 rfl ?_ | refine zC H b2 ?_ | refine zB H b3 rfl ?_ | refine zC H b3 ?_ | refine zB H b4 rfl ?_ | refine zC H b4 ?_ | (apply zL H; (· repeat first | exact .h | apply AtK.t); (· rfl)) | (apply zA H; (· repeat first | exact .h | apply AtK.t)) | (apply zS H; (· repeat first | exact .h | apply AtK.t); (· rfl); (conv => whnf); clear H; intro τ H) | rw [List.length_map]); ((conv => whnf); (repeat ((first | with_reducible (first | refine zT rfl ?_ | refine zF rfl ?_ | refine zY rfl ?_) | refine zY (by decide) ?_ | refine zN (by decide) ?_ | with_reducible refine zQ ?_); (conv => whnf))))))
  exact aret (VLe.refl _) H.sub ⟨rfl, rfl⟩
theorem buTakeNone (b1 : σ ib = some (.cells (buC im))) (b2 : σ im = some (.map es)) (sn : Int) (he : es.find? (fun e => e.1 == sn) = none) :
    ACalls Try.prog i_rxbuf_Buffer_Take [.ptr ib 0, i64v sn] σ fun r σ' => r = .tup [i64v 0, .slice 1 [] .full, i64v 4] ∧ σ' = σ := by
  refine k_rxbuf_Buffer_Take rfl ?_
  have H := Hp.nil σ
  ((conv => whnf); (repeat ((first | with_reducible (first | refine zT rfl ?_ | refine zF rfl ?_ | refine zY rfl ?_) | refine zY (by decide) ?_ | refine zN (by decide) ?_ | with_reducible refine zQ ?_); (conv => whnf))))
  refine acall (buNone b1 b2 sn he) ?_
  rintro _ σ_ ⟨rfl, e_⟩
  obtain rfl := e_.symm
  refine ⟨?_, Ext.refl _⟩
  ((conv => whnf); (repeat ((first | with_reducible (first | refine zT rfl ?_ | refine zF rfl ?_ | refine zY rfl ?_) | refine zY (by decide) ?_ | refine zN (by decide) ?_ | with_reducible refine zQ ?_); (conv => whnf))))
  (repeat ((first | refine zI (by omega) ?_ | refine zE (by omega) (by omega) ?_ | refine zD (by omega) (by omega) ?_ | refine zY (by omega) ?_ | refine zN (by omega) ?_ | refine amin ?_ | refine amax ?_ | refine zU (by omega) ?_ | refine z8 (by omega) ?_ | refine zX (by omega) (by omega) ?_ | refine zR rfl ?_ | refine acellA ?_ | refine zB H b1 rfl ?_ | refine zC H b1 ?_ | refine zB H b2 rfl ?_ | refine zC H b2 ?_ | refine zB H b3 rfl ?_ | refine zC H b3 ?_ | refine zB H b4 rfl ?_ | refine zC H b4 ?_ | (apply zL H; (· repeat first | exact .h | apply AtK.t); (· rfl)) | (apply zA H; (· repeat first | exact .h | apply AtK.t)) | (apply zS H; (· repeat first | exact .h | apply AtK.t); (· rfl); (conv => whnf); clear H; intro τ H) | rw [List.length_map]); ((conv => whnf); (repeat ((first | with_reducible (first | refine zT rfl ?_ | refine zF rfl ?_ | refine zY rfl ?_) | refine zY (by decide) ?_ | refine zN (by decide) ?_ | with_reducible refine zQ ?_); (conv => whnf))))))
  exact aret (VLe.refl _) H.sub ⟨rfl, rfl⟩
theorem buTakeShort (b1 : σ ib = some (.cells (buC im))) (b2 : σ im = some (.map es)) (sn : Int) (he : es.find? (fun e => e.1 == sn) = some (sn, .ptr ip 0)) (b3 : σ ip = some (.cells (peC v is e ig fi))) (b4 : σ is = some (.cells [spL tk l])) (hs : SOk l) (hw : wholeV l e = false) :
    ACalls Try.prog i_rxbuf_Buffer_Take [.ptr ib 0, i64v sn] σ fun r σ' => r = .tup [i64v 0, .slice 1 [] .full, i64v 8] ∧ σ' = σ := by
  refine k_rxbuf_Buffer_Take rfl ?_
  have H := Hp.nil σ
  ((conv => whnf); (repeat ((first | with_reducible (first | refine zT rfl ?_ | refine zF rfl ?_ | refine zY rfl ?_) | refine zY (by decide) ?_ | refine zN (by decide) ?_ | with_reducible refine zQ ?_); (conv => whnf))))
  refine acall (buFind b1 b2 sn he) ?_
  rintro _ σ_ ⟨rfl, e_⟩
  obtain rfl := e_.symm
  refine ⟨?_, Ext.refl _⟩
  ((conv => whnf); (repeat ((first | with_reducible (first | refine zT rfl ?_ | refine zF rfl ?_ | refine zY rfl ?_) | refine zY (by decide) ?_ | refine zN (by decide) ?_ | with_reducible refine zQ ?_); (conv => whnf))))
  (repeat ((first | refine zI (by omega) ?_ | refine zE (by omega) (by omega) ?_ | refine zD (by omega) (by omega) ?_ | refine zY (by omega) ?_ | refine zN (by omega) ?_ | refine amin ?_ | refine amax ?_ | refine zU (by omega) ?_ | refine z8 (by omega) ?_ | refine zX (by omega) (by omega) ?_ | refine zR rfl ?_ | refine acellA ?_ | refine zB H b1 rfl ?_ | refine zC H b1 ?_ | refine zB H b2 rfl ?_ | refine zC H b2 ?_ | refine zB H b3 rfl ?_ | refine zC H b3 ?_ | refine zB H b4 rfl ?_ | refine zC H b4 ?_ | (apply zL H; (· repeat first | exact .h | apply AtK.t); (· rfl)) | (apply zA H; (· repeat first | exact .h | apply AtK.t)) | (apply zS H; (· repeat first | exact .h | apply AtK.t); (· rfl); (conv => whnf); clear H; intro τ H) | rw [List.length_map]); ((conv => whnf); (repeat ((first | with_reducible (first | refine zT rfl ?_ | refine zF rfl ?_ | refine zY rfl ?_) | refine zY (by decide) ?_ | refine zN (by decide) ?_ | with_reducible refine zQ ?_); (conv => whnf))))))
  refine acall (peWhole b3 b4 hs.mid) ?_
  rintro _ σ_ ⟨rfl, e_⟩
  obtain rfl := e_.symm
  refine ⟨?_, Ext.refl _⟩
  ((conv => whnf); (repeat ((first | with_reducible (first | refine zT rfl ?_ | refine zF rfl ?_ | refine zY rfl ?_) | refine zY (by decide) ?_ | refine zN (by decide) ?_ | with_reducible refine zQ ?_); (conv => whnf))))
  rw [hw]
  ((conv => whnf); (repeat ((first | with_reducible (first | refine zT rfl ?_ | refine zF rfl ?_ | refine zY rfl ?_) | refine zY (by decide) ?_ | refine zN (by decide) ?_ | with_reducible refine zQ ?_); (conv => whnf))))
  (repeat ((first | refine zI (by omega) ?_ | refine zE (by omega) (by omega) ?_ | refine zD (by omega) (by omega) ?_ | refine zY (by omega) ?_ | refine zN (by omega) ?_ | refine amin ?_ | refine amax ?_ | refine zU (by omega) ?_ | refine z8 (by omega) ?_ | refine zX (by omega) (by omega) ?_ | refine zR rfl ?_ | refine acellA ?_ | refine zB H b1 rfl ?_ | refine zC H b1 ?_ | refine zB H b2 rfl ?_ | refine zC H b2 ?_ | refine zB H b3 rfl ?_ | refine zC H b3 ?_ | refine zB H b4 rfl ?_ | refine zC H b4 ?_ | (apply zL H; (· repeat first | exact .h | apply AtK.t); (· rfl)) | (apply zA H; (· repeat first | exact .h | apply AtK.t)) | (apply zS H; (· repeat first | exact .h | apply AtK.t); (· rfl); (conv => whnf); clear H; intro τ H) | rw [List.length_map]); ((conv => whnf); (repeat ((first | with_reducible (first | refine zT rfl ?_ | refine zF rfl ?_ | refine zY rfl ?_) | refine zY (by decide) ?_ | refine zN (by decide) ?_ | with_reducible refine zQ ?_); (conv => whnf))))))
  exact aret (VLe.refl _) H.sub ⟨rfl, rfl⟩
set_option maxHeartbeats 4000000 in
theorem buTake (h : RB v D E) (H : Hp σb (.o ib (.cells (buC im)) :: .o im (.map es) :: .o ip (.cells (peC v is e ig fi)) :: .o is (.cells [spL tk l]) :: .o ig (.map em) :: (E ++ G)) σ) (sn : Int) (he : es.find? (fun e => e.1 == sn) = some (sn, .ptr ip 0)) (hs : SOk l) (hw : wholeV l e = true)
    (hD : e ≤ D.length) (hD2 : D.length ≤ 1000000) (hem : AllT em) :
    ACalls Try.prog i_rxbuf_Buffer_Take [.ptr ib 0, i64v sn] σ fun r σ' => r = .tup [i64v fi, lists .none (takeN D em e e.toNat).1, i64v 0] ∧ Hp σb (.o ib (.cells (buC im)) :: .o im (.map (mapDel es sn)) :: .o ip (.cells (peC v is e ig fi)) :: .o is (.cells [spL tk l]) :: .o ig (.map em) :: (E ++ G)) σ' := by
  have he0 : 0 < e := by
    unfold wholeV at hw
    simp at hw
    omega
  cases h with
  | nil => simp at hD; omega
  | row r _ hDn =>
  replace H : Hp σb (.o ib (.cells (buC im)) :: .o im (.map es) :: .o ip (.cells (peC (.ms r 1 0 D.length) is e ig fi)) :: .o is (.cells [spL tk l]) :: .o ig (.map em) :: .o r (.cells (D.map byteV)) :: G) σ := H
  refine k_rxbuf_Buffer_Take rfl ?_
  ((conv => whnf); (repeat ((first | with_reducible (first | refine zT rfl ?_ | refine zF rfl ?_ | refine zY rfl ?_) | refine zY (by decide) ?_ | refine zN (by decide) ?_ | with_reducible refine zQ ?_); (conv => whnf))))
  refine acall (buFind (H.get (k := 0) rfl) (H.get (k := 1) rfl) sn he) ?_
  rintro _ σ_ ⟨rfl, e_⟩
  obtain rfl := e_.symm
  refine ⟨?_, Ext.refl _⟩
  ((conv => whnf); (repeat ((first | with_reducible (first | refine zT rfl ?_ | refine zF rfl ?_ | refine zY rfl ?_) | refine zY (by decide) ?_ | refine zN (by decide) ?_ | with_reducible refine zQ ?_); (conv => whnf))))
  (repeat ((first | refine zI (by omega) ?_ | refine zE (by omega) (by omega) ?_ | refine zD (by omega) (by omega) ?_ | refine zY (by omega) ?_ | refine zN (by omega) ?_ | refine amin ?_ | refine amax ?_ | refine zU (by omega) ?_ | refine z8 (by omega) ?_ | refine zX (by omega) (by omega) ?_ | refine zR rfl ?_ | refine acellA ?_ | refine zB H b1 rfl ?_ | refine zC H b1 ?_ | refine zB H b2 rfl ?_ | refine zC H b2 ?_ | refine zB H b3 rfl ?_ | refine zC H b3 ?_ | refine zB H b4 rfl ?_ | refine zC H b4 ?_ | (apply zL H; (· repeat first | exact .h | apply AtK.t); (· rfl)) | (apply zA H; (· repeat first | exact .h | apply AtK.t)) | (apply zS H; (· repeat first | exact .h | apply AtK.t); (· rfl); (conv => whnf); clear H; intro τ H) | rw [List.length_map]); ((conv => whnf); (repeat ((first | with_reducible (first | refine zT rfl ?_ | refine zF rfl ?_ | refine zY rfl ?_) | refine zY (by decide) ?_ | refine zN (by decide) ?_ | with_reducible refine zQ ?_); (conv => whnf))))))
  refine acall (peWhole (H.get (k := 2) rfl) (H.get (k := 3) rfl) hs.mid) ?_
  rintro _ σ_ ⟨rfl, e_⟩
  obtain rfl := e_.symm
  refine ⟨?_, Ext.refl _⟩
  ((conv => whnf); (repeat ((first | with_reducible (first | refine zT rfl ?_ | refine zF rfl ?_ | refine zY rfl ?_) | refine zY (by decide) ?_ | refine zN (by decide) ?_ | with_reducible refine zQ ?_); (conv => whnf))))
  rw [hw]
  ((conv => whnf); (repeat ((first | with_reducible (first | refine zT rfl ?_ | refine zF rfl ?_ | refine zY rfl ?_) | refine zY (by decide) ?_ | refine zN (by decide) ?_ | with_reducible refine zQ ?_); (conv => whnf))))
  (repeat ((first | refine zI (by omega) ?_ | refine zE (by omega) (by omega) ?_ | refine zD (by omega) (by omega) ?_ | refine zY (by omega) ?_ | refine zN (by omega) ?_ | refine amin ?_ | refine amax ?_ | refine zU (by omega) ?_ | refine z8 (by omega) ?_ | refine zX (by omega) (by omega) ?_ | refine zR rfl ?_ | refine acellA ?_ | refine zB H b1 rfl ?_ | refine zC H b1 ?_ | refine zB H b2 rfl ?_ | refine zC H b2 ?_ | refine zB H b3 rfl ?_ | refine zC H b3 ?_ | refine zB H b4 rfl ?_ | refine zC H b4 ?_ | (apply zL H; (· repeat first | exact .h | apply AtK.t); (· rfl)) | (apply zA H; (· repeat first | exact .h | apply AtK.t)) | (apply zS H; (· repeat first | exact .h | apply AtK.t); (· rfl); (conv => whnf); clear H; intro τ H) | rw [List.length_map]); ((conv => whnf); (repeat ((first | with_reducible (first | refine zT rfl ?_ | refine zF rfl ?_ | refine zY rfl ?_) | refine zY (by decide) ?_ | refine zN (by decide) ?_ | with_reducible refine zQ ?_); (conv => whnf))))))
  replace H := H.cons_full
  refine aloop (α := Nat × Tok × AHeap) (fun y => [(s11, i64v ((y.1 : Int) + 1)), (s10, i64v (takeN D em e y.1).2), (s9, lists y.2.1 (takeN D em e y.1).1)]) (fun y => y.2.2)
    (fun y => (y.1 : Int) ≤ e ∧ Hp σb (.t y.2.1 :: .o ib (.cells (buC im)) :: .o im (.map es) :: .o ip (.cells (peC (.ms r 1 0 D.length) is e ig fi)) :: .o is (.cells [spL tk l]) :: .o ig (.map em) :: .o r (.cells (D.map byteV)) :: G) y.2.2) (fun y => e.toNat + 1 - y.1)
    (0, .full, σ) ⟨by omega, H⟩ (Sub.refl _) ?_ ?_
  · ((conv => whnf); (repeat ((first | with_reducible (first | refine zT rfl ?_ | refine zF rfl ?_ | refine zY rfl ?_) | refine zY (by decide) ?_ | refine zN (by decide) ?_ | with_reducible refine zQ ?_); (conv => whnf))))
    (repeat' first | with_reducible exact EnvLe.refl _ | (refine EnvLe.node ?_ (by first | exact Or.inl rfl | exact Or.inr (Or.inl rfl) | exact Or.inr (Or.inr ⟨nofun, VLe.slice _ _ _⟩)) ?_))
  clear H
  rintro ⟨k, tk1, τ⟩ ⟨hk, H⟩
  dsimp only at hk H ⊢
  obtain ⟨hf, ho⟩ := takeN_le D em e k
  have hst : takeN D em e (k + 1) = if ((k : Int) + 1 = e ∨ hasE em ((k : Int) + 1) = true) then ((takeN D em e k).1 ++ [(D.take (k + 1)).drop (takeN D em e k).2], k + 1) else takeN D em e k := rfl
  ((conv => whnf); (repeat ((first | with_reducible (first | refine zT rfl ?_ | refine zF rfl ?_ | refine zY rfl ?_) | refine zY (by decide) ?_ | refine zN (by decide) ?_ | with_reducible refine zQ ?_); (conv => whnf))))
  (repeat ((first | refine zI (by omega) ?_ | refine zE (by omega) (by omega) ?_ | refine zD (by omega) (by omega) ?_ | refine zY (by omega) ?_ | refine zN (by omega) ?_ | refine amin ?_ | refine amax ?_ | refine zU (by omega) ?_ | refine z8 (by omega) ?_ | refine zX (by omega) (by omega) ?_ | refine zR rfl ?_ | refine acellA ?_ | refine zB H b1 rfl ?_ | refine zC H b1 ?_ | refine zB H b2 rfl ?_ | refine zC H b2 ?_ | refine zB H b3 rfl ?_ | refine zC H b3 ?_ | refine zB H b4 rfl ?_ | refine zC H b4 ?_ | (apply zL H; (· repeat first | exact .h | apply AtK.t); (· rfl)) | (apply zA H; (· repeat first | exact .h | apply AtK.t)) | (apply zS H; (· repeat first | exact .h | apply AtK.t); (· rfl); (conv => whnf); clear H; intro τ H) | rw [List.length_map]); ((conv => whnf); (repeat ((first | with_reducible (first | refine zT rfl ?_ | refine zF rfl ?_ | refine zY rfl ?_) | refine zY (by decide) ?_ | refine zN (by decide) ?_ | with_reducible refine zQ ?_); (conv => whnf))))))
  by_cases hlt : (k : Int) + 1 ≤ e
  · (repeat ((first | refine zI (by omega) ?_ | refine zE (by omega) (by omega) ?_ | refine zD (by omega) (by omega) ?_ | refine zY (by omega) ?_ | refine zN (by omega) ?_ | refine amin ?_ | refine amax ?_ | refine zU (by omega) ?_ | refine z8 (by omega) ?_ | refine zX (by omega) (by omega) ?_ | refine zR rfl ?_ | refine acellA ?_ | refine zB H b1 rfl ?_ | refine zC H b1 ?_ | refine zB H b2 rfl ?_ | refine zC H b2 ?_ | refine zB H b3 rfl ?_ | refine zC H b3 ?_ | refine zB H b4 rfl ?_ | refine zC H b4 ?_ | (apply zL H; (· repeat first | exact .h | apply AtK.t); (· rfl)) | (apply zA H; (· repeat first | exact .h | apply AtK.t)) | (apply zS H; (· repeat first | exact .h | apply AtK.t); (· rfl); (conv => whnf); clear H; intro τ H) | rw [List.length_map]); ((conv => whnf); (repeat ((first | with_reducible (first | refine zT rfl ?_ | refine zF rfl ?_ | refine zY rfl ?_) | refine zY (by decide) ?_ | refine zN (by decide) ?_ | with_reducible refine zQ ?_); (conv => whnf))))))
    by_cases hke : (k : Int) + 1 = e
    · have hs1 : takeN D em e (k + 1) = ((takeN D em e k).1 ++ [(D.take (k + 1)).drop (takeN D em e k).2], k + 1) := by rw [hst, if_pos (.inl hke)]
      (repeat ((first | refine zI (by omega) ?_ | refine zE (by omega) (by omega) ?_ | refine zD (by omega) (by omega) ?_ | refine zY (by omega) ?_ | refine zN (by omega) ?_ | refine amin ?_ | refine amax ?_ | refine zU (by omega) ?_ | refine z8 (by omega) ?_ | refine zX (by omega) (by omega) ?_ | refine zR rfl ?_ | refine acellA ?_ | refine zB H b1 rfl ?_ | refine zC H b1 ?_ | refine zB H b2 rfl ?_ | refine zC H b2 ?_ | refine zB H b3 rfl ?_ | refine zC H b3 ?_ | refine zB H b4 rfl ?_ | refine zC H b4 ?_ | (apply zL H; (· repeat first | exact .h | apply AtK.t); (· rfl)) | (apply zA H; (· repeat first | exact .h | apply AtK.t)) | (apply zS H; (· repeat first | exact .h | apply AtK.t); (· rfl); (conv => whnf); clear H; intro τ H) | rw [List.length_map]); ((conv => whnf); (repeat ((first | with_reducible (first | refine zT rfl ?_ | refine zF rfl ?_ | refine zY rfl ?_) | refine zY (by decide) ?_ | refine zN (by decide) ?_ | with_reducible refine zQ ?_); (conv => whnf))))))
      refine acut (by omega) (by omega) (by omega) ?_
      ((conv => whnf); (repeat ((first | with_reducible (first | refine zT rfl ?_ | refine zF rfl ?_ | refine zY rfl ?_) | refine zY (by decide) ?_ | refine zN (by decide) ?_ | with_reducible refine zQ ?_); (conv => whnf))))
      refine acutm (b := D) ⟨D, H.get (k := 6) rfl, by omega, by simp⟩ (by omega) (by omega) fun w hw2 => ?_
      rw [show ((k : Int) + 1).toNat = k + 1 by omega, Int.toNat_natCast] at hw2
      ((conv => whnf); (repeat ((first | with_reducible (first | refine zT rfl ?_ | refine zF rfl ?_ | refine zY rfl ?_) | refine zY (by decide) ?_ | refine zN (by decide) ?_ | with_reducible refine zQ ?_); (conv => whnf))))
      refine acall_less (CloneS w _ τ hw2 (by rw [List.length_drop, List.length_take]; omega)) ?_
      rintro _ σ4 ⟨tk3, ho3, rfl⟩
      refine ⟨sl .none ((D.take (k + 1)).drop (takeN D em e k).2), τ, VLe.slice _ _ _, ho3.sub, ?_, Ext.refl _⟩
      ((conv => whnf); (repeat ((first | with_reducible (first | refine zT rfl ?_ | refine zF rfl ?_ | refine zY rfl ?_) | refine zY (by decide) ?_ | refine zN (by decide) ?_ | with_reducible refine zQ ?_); (conv => whnf))))
      apply zP H
      · (repeat first | exact .h | apply AtK.t)
      · exact (by rw [List.length_map]; show (_ + 1) * 24 ≤ _; omega)
      intro tk2
      (conv => whnf)
      clear H
      intro τ H
      ((conv => whnf); (repeat ((first | with_reducible (first | refine zT rfl ?_ | refine zF rfl ?_ | refine zY rfl ?_) | refine zY (by decide) ?_ | refine zN (by decide) ?_ | with_reducible refine zQ ?_); (conv => whnf))))
      rw [show (takeN D em e k).1.map (sl .none) ++ [sl .none ((D.take (k + 1)).drop (takeN D em e k).2)] = (takeN D em e (k + 1)).1.map (sl .none) by rw [hs1]; simp]
      (repeat ((first | refine zI (by omega) ?_ | refine zE (by omega) (by omega) ?_ | refine zD (by omega) (by omega) ?_ | refine zY (by omega) ?_ | refine zN (by omega) ?_ | refine amin ?_ | refine amax ?_ | refine zU (by omega) ?_ | refine z8 (by omega) ?_ | refine zX (by omega) (by omega) ?_ | refine zR rfl ?_ | refine acellA ?_ | refine zB H b1 rfl ?_ | refine zC H b1 ?_ | refine zB H b2 rfl ?_ | refine zC H b2 ?_ | refine zB H b3 rfl ?_ | refine zC H b3 ?_ | refine zB H b4 rfl ?_ | refine zC H b4 ?_ | (apply zL H; (· repeat first | exact .h | apply AtK.t); (· rfl)) | (apply zA H; (· repeat first | exact .h | apply AtK.t)) | (apply zS H; (· repeat first | exact .h | apply AtK.t); (· rfl); (conv => whnf); clear H; intro τ H) | rw [List.length_map]); ((conv => whnf); (repeat ((first | with_reducible (first | refine zT rfl ?_ | refine zF rfl ?_ | refine zY rfl ?_) | refine zY (by decide) ?_ | refine zN (by decide) ?_ | with_reducible refine zQ ?_); (conv => whnf))))))
      refine ⟨(k + 1, tk2, τ), ⟨by dsimp only; omega, H⟩, by dsimp only; omega, Sub.refl _, ?_⟩
      rw [show (((k + 1 : Nat) : Int)) = (k : Int) + 1 by omega]
      ((conv => whnf); (repeat ((first | with_reducible (first | refine zT rfl ?_ | refine zF rfl ?_ | refine zY rfl ?_) | refine zY (by decide) ?_ | refine zN (by decide) ?_ | with_reducible refine zQ ?_); (conv => whnf))))
      rw [show (takeN D em e (k + 1)).2 = k + 1 by rw [hs1]]
      (repeat' first | with_reducible exact EnvLe.refl _ | (refine EnvLe.node ?_ (by first | exact Or.inl rfl | exact Or.inr (Or.inl rfl) | exact Or.inr (Or.inr ⟨nofun, VLe.slice _ _ _⟩)) ?_))
    · (repeat ((first | refine zI (by omega) ?_ | refine zE (by omega) (by omega) ?_ | refine zD (by omega) (by omega) ?_ | refine zY (by omega) ?_ | refine zN (by omega) ?_ | refine amin ?_ | refine amax ?_ | refine zU (by omega) ?_ | refine z8 (by omega) ?_ | refine zX (by omega) (by omega) ?_ | refine zR rfl ?_ | refine acellA ?_ | refine zB H b1 rfl ?_ | refine zC H b1 ?_ | refine zB H b2 rfl ?_ | refine zC H b2 ?_ | refine zB H b3 rfl ?_ | refine zC H b3 ?_ | refine zB H b4 rfl ?_ | refine zC H b4 ?_ | (apply zL H; (· repeat first | exact .h | apply AtK.t); (· rfl)) | (apply zA H; (· repeat first | exact .h | apply AtK.t)) | (apply zS H; (· repeat first | exact .h | apply AtK.t); (· rfl); (conv => whnf); clear H; intro τ H) | rw [List.length_map]); ((conv => whnf); (repeat ((first | with_reducible (first | refine zT rfl ?_ | refine zF rfl ?_ | refine zY rfl ?_) | refine zY (by decide) ?_ | refine zN (by decide) ?_ | with_reducible refine zQ ?_); (conv => whnf))))))
      refine hlook H (k := 5) rfl ?_
      rw [look_edge hem]
      rcases (show hasE em ((k : Int) + 1) = false ∨ hasE em ((k : Int) + 1) = true by cases hasE em ((k : Int) + 1) <;> simp) with hh | hh
      · have hs1 : takeN D em e (k + 1) = takeN D em e k := by rw [hst, if_neg (by rw [hh]; simp [hke])]
        rw [hh]
        ((conv => whnf); (repeat ((first | with_reducible (first | refine zT rfl ?_ | refine zF rfl ?_ | refine zY rfl ?_) | refine zY (by decide) ?_ | refine zN (by decide) ?_ | with_reducible refine zQ ?_); (conv => whnf))))
        (repeat ((first | refine zI (by omega) ?_ | refine zE (by omega) (by omega) ?_ | refine zD (by omega) (by omega) ?_ | refine zY (by omega) ?_ | refine zN (by omega) ?_ | refine amin ?_ | refine amax ?_ | refine zU (by omega) ?_ | refine z8 (by omega) ?_ | refine zX (by omega) (by omega) ?_ | refine zR rfl ?_ | refine acellA ?_ | refine zB H b1 rfl ?_ | refine zC H b1 ?_ | refine zB H b2 rfl ?_ | refine zC H b2 ?_ | refine zB H b3 rfl ?_ | refine zC H b3 ?_ | refine zB H b4 rfl ?_ | refine zC H b4 ?_ | (apply zL H; (· repeat first | exact .h | apply AtK.t); (· rfl)) | (apply zA H; (· repeat first | exact .h | apply AtK.t)) | (apply zS H; (· repeat first | exact .h | apply AtK.t); (· rfl); (conv => whnf); clear H; intro τ H) | rw [List.length_map]); ((conv => whnf); (repeat ((first | with_reducible (first | refine zT rfl ?_ | refine zF rfl ?_ | refine zY rfl ?_) | refine zY (by decide) ?_ | refine zN (by decide) ?_ | with_reducible refine zQ ?_); (conv => whnf))))))
        refine ⟨(k + 1, tk1, τ), ⟨by dsimp only; omega, H⟩, by dsimp only; omega, Sub.refl _, ?_⟩
        rw [show (((k + 1 : Nat) : Int)) = (k : Int) + 1 by omega]
        ((conv => whnf); (repeat ((first | with_reducible (first | refine zT rfl ?_ | refine zF rfl ?_ | refine zY rfl ?_) | refine zY (by decide) ?_ | refine zN (by decide) ?_ | with_reducible refine zQ ?_); (conv => whnf))))
        rw [hs1]
        (repeat' first | with_reducible exact EnvLe.refl _ | (refine EnvLe.node ?_ (by first | exact Or.inl rfl | exact Or.inr (Or.inl rfl) | exact Or.inr (Or.inr ⟨nofun, VLe.slice _ _ _⟩)) ?_))
      · have hs1 : takeN D em e (k + 1) = ((takeN D em e k).1 ++ [(D.take (k + 1)).drop (takeN D em e k).2], k + 1) := by rw [hst, if_pos (.inr hh)]
        rw [hh]
        ((conv => whnf); (repeat ((first | with_reducible (first | refine zT rfl ?_ | refine zF rfl ?_ | refine zY rfl ?_) | refine zY (by decide) ?_ | refine zN (by decide) ?_ | with_reducible refine zQ ?_); (conv => whnf))))
        (repeat ((first | refine zI (by omega) ?_ | refine zE (by omega) (by omega) ?_ | refine zD (by omega) (by omega) ?_ | refine zY (by omega) ?_ | refine zN (by omega) ?_ | refine amin ?_ | refine amax ?_ | refine zU (by omega) ?_ | refine z8 (by omega) ?_ | refine zX (by omega) (by omega) ?_ | refine zR rfl ?_ | refine acellA ?_ | refine zB H b1 rfl ?_ | refine zC H b1 ?_ | refine zB H b2 rfl ?_ | refine zC H b2 ?_ | refine zB H b3 rfl ?_ | refine zC H b3 ?_ | refine zB H b4 rfl ?_ | refine zC H b4 ?_ | (apply zL H; (· repeat first | exact .h | apply AtK.t); (· rfl)) | (apply zA H; (· repeat first | exact .h | apply AtK.t)) | (apply zS H; (· repeat first | exact .h | apply AtK.t); (· rfl); (conv => whnf); clear H; intro τ H) | rw [List.length_map]); ((conv => whnf); (repeat ((first | with_reducible (first | refine zT rfl ?_ | refine zF rfl ?_ | refine zY rfl ?_) | refine zY (by decide) ?_ | refine zN (by decide) ?_ | with_reducible refine zQ ?_); (conv => whnf))))))
        refine acut (by omega) (by omega) (by omega) ?_
        ((conv => whnf); (repeat ((first | with_reducible (first | refine zT rfl ?_ | refine zF rfl ?_ | refine zY rfl ?_) | refine zY (by decide) ?_ | refine zN (by decide) ?_ | with_reducible refine zQ ?_); (conv => whnf))))
        refine acutm (b := D) ⟨D, H.get (k := 6) rfl, by omega, by simp⟩ (by omega) (by omega) fun w hw2 => ?_
        rw [show ((k : Int) + 1).toNat = k + 1 by omega, Int.toNat_natCast] at hw2
        ((conv => whnf); (repeat ((first | with_reducible (first | refine zT rfl ?_ | refine zF rfl ?_ | refine zY rfl ?_) | refine zY (by decide) ?_ | refine zN (by decide) ?_ | with_reducible refine zQ ?_); (conv => whnf))))
        refine acall_less (CloneS w _ τ hw2 (by rw [List.length_drop, List.length_take]; omega)) ?_
        rintro _ σ4 ⟨tk3, ho3, rfl⟩
        refine ⟨sl .none ((D.take (k + 1)).drop (takeN D em e k).2), τ, VLe.slice _ _ _, ho3.sub, ?_, Ext.refl _⟩
        ((conv => whnf); (repeat ((first | with_reducible (first | refine zT rfl ?_ | refine zF rfl ?_ | refine zY rfl ?_) | refine zY (by decide) ?_ | refine zN (by decide) ?_ | with_reducible refine zQ ?_); (conv => whnf))))
        apply zP H
        · (repeat first | exact .h | apply AtK.t)
        · exact (by rw [List.length_map]; show (_ + 1) * 24 ≤ _; omega)
        intro tk2
        (conv => whnf)
        clear H
        intro τ H
        ((conv => whnf); (repeat ((first | with_reducible (first | refine zT rfl ?_ | refine zF rfl ?_ | refine zY rfl ?_) | refine zY (by decide) ?_ | refine zN (by decide) ?_ | with_reducible refine zQ ?_); (conv => whnf))))
        rw [show (takeN D em e k).1.map (sl .none) ++ [sl .none ((D.take (k + 1)).drop (takeN D em e k).2)] = (takeN D em e (k + 1)).1.map (sl .none) by rw [hs1]; simp]
        (repeat ((first | refine zI (by omega) ?_ | refine zE (by omega) (by omega) ?_ | refine zD (by omega) (by omega) ?_ | refine zY (by omega) ?_ | refine zN (by omega) ?_ | refine amin ?_ | refine amax ?_ | refine zU (by omega) ?_ | refine z8 (by omega) ?_ | refine zX (by omega) (by omega) ?_ | refine zR rfl ?_ | refine acellA ?_ | refine zB H b1 rfl ?_ | refine zC H b1 ?_ | refine zB H b2 rfl ?_ | refine zC H b2 ?_ | refine zB H b3 rfl ?_ | refine zC H b3 ?_ | refine zB H b4 rfl ?_ | refine zC H b4 ?_ | (apply zL H; (· repeat first | exact .h | apply AtK.t); (· rfl)) | (apply zA H; (· repeat first | exact .h | apply AtK.t)) | (apply zS H; (· repeat first | exact .h | apply AtK.t); (· rfl); (conv => whnf); clear H; intro τ H) | rw [List.length_map]); ((conv => whnf); (repeat ((first | with_reducible (first | refine zT rfl ?_ | refine zF rfl ?_ | refine zY rfl ?_) | refine zY (by decide) ?_ | refine zN (by decide) ?_ | with_reducible refine zQ ?_); (conv => whnf))))))
        refine ⟨(k + 1, tk2, τ), ⟨by dsimp only; omega, H⟩, by dsimp only; omega, Sub.refl _, ?_⟩
        rw [show (((k + 1 : Nat) : Int)) = (k : Int) + 1 by omega]
        ((conv => whnf); (repeat ((first | with_reducible (first | refine zT rfl ?_ | refine zF rfl ?_ | refine zY rfl ?_) | refine zY (by decide) ?_ | refine zN (by decide) ?_ | with_reducible refine zQ ?_); (conv => whnf))))
        rw [show (takeN D em e (k + 1)).2 = k + 1 by rw [hs1]]
        (repeat' first | with_reducible exact EnvLe.refl _ | (refine EnvLe.node ?_ (by first | exact Or.inl rfl | exact Or.inr (Or.inl rfl) | exact Or.inr (Or.inr ⟨nofun, VLe.slice _ _ _⟩)) ?_))
  · obtain rfl : k = e.toNat := by omega
    (repeat ((first | refine zI (by omega) ?_ | refine zE (by omega) (by omega) ?_ | refine zD (by omega) (by omega) ?_ | refine zY (by omega) ?_ | refine zN (by omega) ?_ | refine amin ?_ | refine amax ?_ | refine zU (by omega) ?_ | refine z8 (by omega) ?_ | refine zX (by omega) (by omega) ?_ | refine zR rfl ?_ | refine acellA ?_ | refine zB H b1 rfl ?_ | refine zC H b1 ?_ | refine zB H b2 rfl ?_ | refine zC H b2 ?_ | refine zB H b3 rfl ?_ | refine zC H b3 ?_ | refine zB H b4 rfl ?_ | refine zC H b4 ?_ | (apply zL H; (· repeat first | exact .h | apply AtK.t); (· rfl)) | (apply zA H; (· repeat first | exact .h | apply AtK.t)) | (apply zS H; (· repeat first | exact .h | apply AtK.t); (· rfl); (conv => whnf); clear H; intro τ H) | rw [List.length_map]); ((conv => whnf); (repeat ((first | with_reducible (first | refine zT rfl ?_ | refine zF rfl ?_ | refine zY rfl ?_) | refine zY (by decide) ?_ | refine zN (by decide) ?_ | with_reducible refine zQ ?_); (conv => whnf))))))
    apply zMd H
    · (repeat first | exact .h | apply AtK.t)
    (conv => whnf)
    clear H
    intro τ H
    ((conv => whnf); (repeat ((first | with_reducible (first | refine zT rfl ?_ | refine zF rfl ?_ | refine zY rfl ?_) | refine zY (by decide) ?_ | refine zN (by decide) ?_ | with_reducible refine zQ ?_); (conv => whnf))))
    (repeat ((first | refine zI (by omega) ?_ | refine zE (by omega) (by omega) ?_ | refine zD (by omega) (by omega) ?_ | refine zY (by omega) ?_ | refine zN (by omega) ?_ | refine amin ?_ | refine amax ?_ | refine zU (by omega) ?_ | refine z8 (by omega) ?_ | refine zX (by omega) (by omega) ?_ | refine zR rfl ?_ | refine acellA ?_ | refine zB H b1 rfl ?_ | refine zC H b1 ?_ | refine zB H b2 rfl ?_ | refine zC H b2 ?_ | refine zB H b3 rfl ?_ | refine zC H b3 ?_ | refine zB H b4 rfl ?_ | refine zC H b4 ?_ | (apply zL H; (· repeat first | exact .h | apply AtK.t); (· rfl)) | (apply zA H; (· repeat first | exact .h | apply AtK.t)) | (apply zS H; (· repeat first | exact .h | apply AtK.t); (· rfl); (conv => whnf); clear H; intro τ H) | rw [List.length_map]); ((conv => whnf); (repeat ((first | with_reducible (first | refine zT rfl ?_ | refine zF rfl ?_ | refine zY rfl ?_) | refine zY (by decide) ?_ | refine zN (by decide) ?_ | with_reducible refine zQ ?_); (conv => whnf))))))
    refine aret (VLe.tup (VLe.cons (VLe.refl _) (VLe.cons (VLe.slice _ _ _) (fun _ _ h => h)))) (Sub.refl _) ⟨rfl, H.tail⟩
end
end Go.Proofs.Ytgobbmdbkmjlnaa
/-
  What came in parts: how many bytes are there.
-/
namespace Go.Proofs.Ytgobbmdbkmjlnaa
set_option linter.unusedVariables false
set_option linter.unusedSimpArgs false
open Go Go.Am

/-- What is there, of each piece. -/
structure KeptB (σ : AHeap) (es : List (Int × AVal)) (dl : Int → List Sp) : Prop where
  at_ : ∀ e ∈ es, ∃ ip v is ed ig fi tk, e.2 = .ptr ip 0 ∧ σ ip = some (.cells (peC v is ed ig fi)) ∧ σ is = some (.cells [spL tk (dl e.1)]) ∧ SOk (dl e.1)
set_option maxRecDepth 20000 in
theorem buBytes {σ : AHeap} {ib im : Nat} {es : List (Int × AVal)} {dl : Int → List Sp} (b1 : σ ib = some (.cells (buC im))) (b2 : σ im = some (.map es)) (hn : es.length ≤ 100000) (hw : ∀ e ∈ es, inR e.1) (hk : KeptB σ es dl) :
    ACalls Try.prog i_rxbuf_Buffer_Bytes [.ptr ib 0] σ fun v σ' => v = i64v (dueSum dl (es.map (·.1))) ∧ σ' = σ := by
  refine k_rxbuf_Buffer_Bytes rfl ?_
  have H := Hp.nil σ
  ((conv => whnf); (repeat ((first | with_reducible (first | refine zT rfl ?_ | refine zF rfl ?_ | refine zY rfl ?_) | refine zY (by decide) ?_ | refine zN (by decide) ?_ | with_reducible refine zQ ?_); (conv => whnf))))
  refine acall (buNumbers b1 b2 (by omega) hw) ?_
  rintro _ σ_ ⟨rfl, e_⟩
  obtain rfl := e_.symm
  refine ⟨?_, Ext.refl _⟩
  ((conv => whnf); (repeat ((first | with_reducible (first | refine zT rfl ?_ | refine zF rfl ?_ | refine zY rfl ?_) | refine zY (by decide) ?_ | refine zN (by decide) ?_ | with_reducible refine zQ ?_); (conv => whnf))))
  obtain ⟨ks, hks⟩ : ∃ ks, ks = sortI (es.map (·.1)) := ⟨_, rfl⟩
  have hp : ks.Perm (es.map (·.1)) := hks ▸ sortI_perm _
  have hl : ks.length = es.length := by rw [hp.length_eq, List.length_map]
  rw [← hks, ← dueSum_perm hp]
  clear hks
  have hall : ∀ k ∈ ks, 0 ≤ cntL (dl k) ∧ cntL (dl k) ≤ 65536 := fun k hk' => by
    obtain ⟨e, he, _, rfl⟩ := find_key (hp.mem_iff.1 hk')
    obtain ⟨_, _, _, _, _, _, _, _, _, _, h⟩ := hk.at_ e he
    exact cntL_bound h
  ((conv => whnf); (repeat ((first | with_reducible (first | refine zT rfl ?_ | refine zF rfl ?_ | refine zY rfl ?_) | refine zY (by decide) ?_ | refine zN (by decide) ?_ | with_reducible refine zQ ?_); (conv => whnf))))
  refine aloop (α := Nat × Int) (fun y => [(s9, i64v y.1), (s3, i64v y.2)]) (fun _ => σ) (fun y => y.1 ≤ ks.length ∧ y.2 = dueSum dl (ks.take y.1) ∧ 0 ≤ y.2 ∧ y.2 ≤ 65536 * (y.1 : Int)) (fun y => ks.length - y.1)
    (0, 0) ⟨Nat.zero_le _, rfl, by omega, by omega⟩ (Sub.refl _) ?_ ?_
  · ((conv => whnf); (repeat ((first | with_reducible (first | refine zT rfl ?_ | refine zF rfl ?_ | refine zY rfl ?_) | refine zY (by decide) ?_ | refine zN (by decide) ?_ | with_reducible refine zQ ?_); (conv => whnf))))
    (repeat' first | with_reducible exact EnvLe.refl _ | (refine EnvLe.node ?_ (by first | exact Or.inl rfl | exact Or.inr (Or.inl rfl) | exact Or.inr (Or.inr ⟨nofun, VLe.slice _ _ _⟩)) ?_))
  rintro ⟨i, n⟩ ⟨hi, he, h0, h1⟩
  dsimp only at hi he h0 h1 ⊢
  ((conv => whnf); (repeat ((first | with_reducible (first | refine zT rfl ?_ | refine zF rfl ?_ | refine zY rfl ?_) | refine zY (by decide) ?_ | refine zN (by decide) ?_ | with_reducible refine zQ ?_); (conv => whnf))))
  rw [List.length_map]
  by_cases h : i < ks.length
  · (repeat ((first | refine zI (by omega) ?_ | refine zE (by omega) (by omega) ?_ | refine zD (by omega) (by omega) ?_ | refine zY (by omega) ?_ | refine zN (by omega) ?_ | refine amin ?_ | refine amax ?_ | refine zU (by omega) ?_ | refine z8 (by omega) ?_ | refine zX (by omega) (by omega) ?_ | refine zR rfl ?_ | refine acellA ?_ | refine zB H b1 rfl ?_ | refine zC H b1 ?_ | refine zB H b2 rfl ?_ | refine zC H b2 ?_ | refine zB H b3 rfl ?_ | refine zC H b3 ?_ | refine zB H b4 rfl ?_ | refine zC H b4 ?_ | (apply zL H; (· repeat first | exact .h | apply AtK.t); (· rfl)) | (apply zA H; (· repeat first | exact .h | apply AtK.t)) | (apply zS H; (· repeat first | exact .h | apply AtK.t); (· rfl); (conv => whnf); clear H; intro τ H) | rw [List.length_map]); ((conv => whnf); (repeat ((first | with_reducible (first | refine zT rfl ?_ | refine zF rfl ?_ | refine zY rfl ?_) | refine zY (by decide) ?_ | refine zN (by decide) ?_ | with_reducible refine zQ ?_); (conv => whnf))))))
    refine aget (by omega) (get_ints' h) ?_
    ((conv => whnf); (repeat ((first | with_reducible (first | refine zT rfl ?_ | refine zF rfl ?_ | refine zY rfl ?_) | refine zY (by decide) ?_ | refine zN (by decide) ?_ | with_reducible refine zQ ?_); (conv => whnf))))
    refine acell rfl ?_
    ((conv => whnf); (repeat ((first | with_reducible (first | refine zT rfl ?_ | refine zF rfl ?_ | refine zY rfl ?_) | refine zY (by decide) ?_ | refine zN (by decide) ?_ | with_reducible refine zQ ?_); (conv => whnf))))
    obtain ⟨e, hem, hf, hek⟩ := find_key (hp.mem_iff.1 (List.getElem_mem h))
    obtain ⟨ip, v, is, ed, ig, fi, tk, g1, g2, g3, g4⟩ := hk.at_ e hem
    have hb := hall ks[i] (List.getElem_mem h)
    (repeat ((first | refine zI (by omega) ?_ | refine zE (by omega) (by omega) ?_ | refine zD (by omega) (by omega) ?_ | refine zY (by omega) ?_ | refine zN (by omega) ?_ | refine amin ?_ | refine amax ?_ | refine zU (by omega) ?_ | refine z8 (by omega) ?_ | refine zX (by omega) (by omega) ?_ | refine zR rfl ?_ | refine acellA ?_ | refine zB H b1 rfl ?_ | refine zC H b1 ?_ | refine zB H b2 rfl ?_ | refine zC H b2 ?_ | refine zB H b3 rfl ?_ | refine zC H b3 ?_ | refine zB H b4 rfl ?_ | refine zC H b4 ?_ | (apply zL H; (· repeat first | exact .h | apply AtK.t); (· rfl)) | (apply zA H; (· repeat first | exact .h | apply AtK.t)) | (apply zS H; (· repeat first | exact .h | apply AtK.t); (· rfl); (conv => whnf); clear H; intro τ H) | rw [List.length_map]); ((conv => whnf); (repeat ((first | with_reducible (first | refine zT rfl ?_ | refine zF rfl ?_ | refine zY rfl ?_) | refine zY (by decide) ?_ | refine zN (by decide) ?_ | with_reducible refine zQ ?_); (conv => whnf))))))
    refine hlookB H b2 ?_
    rw [hf]
    obtain ⟨ek, ev⟩ := e
    dsimp only at hek g1 g3 g4
    subst g1
    ((conv => whnf); (repeat ((first | with_reducible (first | refine zT rfl ?_ | refine zF rfl ?_ | refine zY rfl ?_) | refine zY (by decide) ?_ | refine zN (by decide) ?_ | with_reducible refine zQ ?_); (conv => whnf))))
    refine zB H g2 rfl ?_
    ((conv => whnf); (repeat ((first | with_reducible (first | refine zT rfl ?_ | refine zF rfl ?_ | refine zY rfl ?_) | refine zY (by decide) ?_ | refine zN (by decide) ?_ | with_reducible refine zQ ?_); (conv => whnf))))
    refine acall (sCount g3 g4.mid g4.mem) ?_
    rintro _ σ_ ⟨rfl, e_⟩
    obtain rfl := e_.symm
    refine ⟨?_, Ext.refl _⟩
    ((conv => whnf); (repeat ((first | with_reducible (first | refine zT rfl ?_ | refine zF rfl ?_ | refine zY rfl ?_) | refine zY (by decide) ?_ | refine zN (by decide) ?_ | with_reducible refine zQ ?_); (conv => whnf))))
    rw [hek]
    (repeat ((first | refine zI (by omega) ?_ | refine zE (by omega) (by omega) ?_ | refine zD (by omega) (by omega) ?_ | refine zY (by omega) ?_ | refine zN (by omega) ?_ | refine amin ?_ | refine amax ?_ | refine zU (by omega) ?_ | refine z8 (by omega) ?_ | refine zX (by omega) (by omega) ?_ | refine zR rfl ?_ | refine acellA ?_ | refine zB H b1 rfl ?_ | refine zC H b1 ?_ | refine zB H b2 rfl ?_ | refine zC H b2 ?_ | refine zB H b3 rfl ?_ | refine zC H b3 ?_ | refine zB H b4 rfl ?_ | refine zC H b4 ?_ | (apply zL H; (· repeat first | exact .h | apply AtK.t); (· rfl)) | (apply zA H; (· repeat first | exact .h | apply AtK.t)) | (apply zS H; (· repeat first | exact .h | apply AtK.t); (· rfl); (conv => whnf); clear H; intro τ H) | rw [List.length_map]); ((conv => whnf); (repeat ((first | with_reducible (first | refine zT rfl ?_ | refine zF rfl ?_ | refine zY rfl ?_) | refine zY (by decide) ?_ | refine zN (by decide) ?_ | with_reducible refine zQ ?_); (conv => whnf))))))
    refine ⟨(i + 1, n + cntL (dl ks[i])), ⟨h, ?_, ?_, ?_⟩, by dsimp only; omega, Sub.refl _, ?_⟩
    · dsimp only; rw [dueSum_take h, he]
    · dsimp only; omega
    · dsimp only; omega
    · ((conv => whnf); (repeat ((first | with_reducible (first | refine zT rfl ?_ | refine zF rfl ?_ | refine zY rfl ?_) | refine zY (by decide) ?_ | refine zN (by decide) ?_ | with_reducible refine zQ ?_); (conv => whnf))))
      (repeat' first | with_reducible exact EnvLe.refl _ | (refine EnvLe.node ?_ (by first | exact Or.inl rfl | exact Or.inr (Or.inl rfl) | exact Or.inr (Or.inr ⟨nofun, VLe.slice _ _ _⟩)) ?_))
  · obtain rfl : i = ks.length := by omega
    rw [List.take_length] at he
    (repeat ((first | refine zI (by omega) ?_ | refine zE (by omega) (by omega) ?_ | refine zD (by omega) (by omega) ?_ | refine zY (by omega) ?_ | refine zN (by omega) ?_ | refine amin ?_ | refine amax ?_ | refine zU (by omega) ?_ | refine z8 (by omega) ?_ | refine zX (by omega) (by omega) ?_ | refine zR rfl ?_ | refine acellA ?_ | refine zB H b1 rfl ?_ | refine zC H b1 ?_ | refine zB H b2 rfl ?_ | refine zC H b2 ?_ | refine zB H b3 rfl ?_ | refine zC H b3 ?_ | refine zB H b4 rfl ?_ | refine zC H b4 ?_ | (apply zL H; (· repeat first | exact .h | apply AtK.t); (· rfl)) | (apply zA H; (· repeat first | exact .h | apply AtK.t)) | (apply zS H; (· repeat first | exact .h | apply AtK.t); (· rfl); (conv => whnf); clear H; intro τ H) | rw [List.length_map]); ((conv => whnf); (repeat ((first | with_reducible (first | refine zT rfl ?_ | refine zF rfl ?_ | refine zY rfl ?_) | refine zY (by decide) ?_ | refine zN (by decide) ?_ | with_reducible refine zQ ?_); (conv => whnf))))))
    exact aret (VLe.refl _) H.sub ⟨by rw [he], rfl⟩
end Go.Proofs.Ytgobbmdbkmjlnaa
/-
  What came in parts: a buffer, whatever pieces it has.
-/
namespace Go.Proofs.Ytgobbmdbkmjlnaa
set_option linter.unusedVariables false
set_option linter.unusedSimpArgs false
set_option maxRecDepth 20000
open Go Go.Am

/-- A piece: its number, its bytes, what is there, its end, where fields begin, its FI. -/
structure PV where
  sn : Int
  D : List UInt8
  l : List Sp
  e : Int
  em : List (Int × AVal)
  fi : Int
structure PV.Ok (x : PV) : Prop where
  so : SOk x.l
  inD : ∀ y ∈ x.l, y.2 ≤ (x.D.length : Int)
  dl : x.D.length ≤ 4000
  em : AllT x.em
  sn : inR x.sn
/-- A piece in the heap. -/
structure PX where
  pv : PV
  ip : Nat
  is : Nat
  ig : Nat
  v : AVal
  E : List HE
  tk : Tok
abbrev PX.hd (x : PX) : List HE := [.o x.ip (.cells (peC x.v x.is x.pv.e x.ig x.pv.fi)), .o x.is (.cells [spL x.tk x.pv.l]), .o x.ig (.map x.pv.em)]
def flatX : List PX → List HE
  | [] => []
  | x :: X => x.hd ++ (x.E ++ flatX X)
theorem flatX_append : ∀ (A B : List PX), flatX (A ++ B) = flatX A ++ flatX B
  | [], B => rfl
  | x :: A, B => by
    show x.hd ++ (x.E ++ flatX (A ++ B)) = (x.hd ++ (x.E ++ flatX A)) ++ flatX B
    rw [flatX_append A B, List.append_assoc, List.append_assoc]
abbrev esX (X : List PX) : List (Int × AVal) := X.map fun x => (x.pv.sn, .ptr x.ip 0)
abbrev XL (ib im : Nat) (X : List PX) (G : List HE) : List HE := .o ib (.cells (buC im)) :: .o im (.map (esX X)) :: (flatX X ++ G)
structure XOk (X : List PX) : Prop where
  nd : (X.map (·.pv.sn)).Nodup
  ok : ∀ x ∈ X, x.pv.Ok
  rb : ∀ x ∈ X, RB x.v x.pv.D x.E
  len : X.length ≤ 10000
def findS (S : List PV) (sn : Int) : Option PV := S.find? fun x => x.sn == sn
def lS (S : List PV) (sn : Int) : List Sp := match findS S sn with
  | some x => x.l
  | none => []
def eS (S : List PV) (sn : Int) : Int := match findS S sn with
  | some x => x.e
  | none => -1
def wholeS (S : List PV) (sn : Int) : Bool := match findS S sn with
  | some x => wholeV x.l x.e
  | none => false
def missS (S : List PV) (sn : Int) : List Sp := match findS S sn with
  | some x => missL x.l x.e
  | none => []
def bytesS (S : List PV) : Int := (S.map fun x => cntL x.l).sum
def updV (x : PV) (p : Pk) : PV := ⟨x.sn, fillB x.l p.off.toNat p.fs.flatten x.D, addS (spanP p) x.l, noteE p (endsB p) x.e, noteM p (endsB p) x.em, noteF p (endsB p) x.fi⟩
def freshV (sn : Int) : PV := ⟨sn, [], [], -1, [], 0⟩
def putS (S : List PV) (p : Pk) : Int := putK p (lS S p.sn) (eS S p.sn)
def putV (S : List PV) (p : Pk) : List PV :=
  if putS S p ≠ 0 then S else match findS S p.sn with
    | some _ => S.map fun x => if x.sn = p.sn then updV x p else x
    | none => S ++ [updV (freshV p.sn) p]
abbrev pvs (X : List PX) : List PV := X.map (·.pv)

theorem findX {X : List PX} (hnd : (X.map (·.pv.sn)).Nodup) (sn : Int) :
    (∃ A x B, X = A ++ x :: B ∧ x.pv.sn = sn ∧ (esX X).find? (fun e => e.1 == sn) = some (sn, .ptr x.ip 0) ∧ findS (pvs X) sn = some x.pv ∧ (∀ y ∈ A, y.pv.sn ≠ sn) ∧ (∀ y ∈ B, y.pv.sn ≠ sn)) ∨
    ((∀ x ∈ X, x.pv.sn ≠ sn) ∧ (esX X).find? (fun e => e.1 == sn) = none ∧ findS (pvs X) sn = none) := by
  induction X with
  | nil => exact .inr ⟨nofun, rfl, rfl⟩
  | cons a X ih =>
    rw [List.map_cons, List.nodup_cons] at hnd
    by_cases h : a.pv.sn = sn
    · refine .inl ⟨[], a, X, rfl, h, ?_, ?_, nofun, fun y hy e => hnd.1 (by rw [h, ← e]; exact List.mem_map_of_mem (f := fun x : PX => x.pv.sn) hy)⟩
      · show List.find? _ ((a.pv.sn, AVal.ptr a.ip 0) :: esX X) = _
        rw [List.find?_cons]; simp [h]
      · show List.find? _ (a.pv :: pvs X) = _
        rw [List.find?_cons]; simp [h]
    · have hb : (a.pv.sn == sn) = false := by simp [h]
      have q1 : (esX (a :: X)).find? (fun e => e.1 == sn) = (esX X).find? (fun e => e.1 == sn) := by
        show List.find? _ ((a.pv.sn, AVal.ptr a.ip 0) :: esX X) = _
        rw [List.find?_cons]; dsimp only; rw [hb]
      have q2 : findS (pvs (a :: X)) sn = findS (pvs X) sn := by
        show List.find? _ (a.pv :: pvs X) = _
        rw [List.find?_cons, hb]; rfl
      rw [q1, q2]
      rcases ih hnd.2 with ⟨A, x, B, rfl, h1, h2, h3, h4, h5⟩ | ⟨h1, h2, h3⟩
      · refine .inl ⟨a :: A, x, B, rfl, h1, h2, h3, fun y hy => ?_, h5⟩
        rcases List.mem_cons.1 hy with rfl | hy
        · exact h
        · exact h4 y hy
      · refine .inr ⟨fun y hy => ?_, h2, h3⟩
        rcases List.mem_cons.1 hy with rfl | hy
        · exact h
        · exact h1 y hy
section
variable {σb σ : AHeap} {ib im : Nat} {X A B : List PX} {x : PX} {G : List HE} {o1 o2 : HE}
theorem XL.outX (H : Hp σb (o1 :: o2 :: (flatX (A ++ x :: B) ++ G)) σ) : Hp σb (x.hd ++ (o1 :: o2 :: (x.E ++ (flatX A ++ (flatX B ++ G))))) σ := by
  rw [flatX_append, show flatX (x :: B) = x.hd ++ (x.E ++ flatX B) from rfl, List.append_assoc, List.append_assoc, List.append_assoc] at H
  have H := Hp.mid2 (A := [o1, o2]) (B := flatX A) (C := x.hd) H
  have H := Hp.mid2 (A := [o1, o2] ++ x.hd) (B := flatX A) (C := x.E) (D := flatX B ++ G) (by rw [List.append_assoc]; exact H)
  rw [List.append_assoc] at H
  exact Hp.mid (A := [o1, o2]) (B := x.hd) H
theorem XL.backX (H : Hp σb (x.hd ++ (o1 :: o2 :: (x.E ++ (flatX A ++ (flatX B ++ G))))) σ) : Hp σb (o1 :: o2 :: (flatX (A ++ x :: B) ++ G)) σ := by
  rw [flatX_append, show flatX (x :: B) = x.hd ++ (x.E ++ flatX B) from rfl, List.append_assoc, List.append_assoc, List.append_assoc]
  have H := Hp.mid (A := x.hd) (B := [o1, o2]) H
  have H := Hp.mid2 (A := [o1, o2] ++ x.hd) (B := x.E) (C := flatX A) (D := flatX B ++ G) (by rw [List.append_assoc]; exact H)
  rw [List.append_assoc] at H
  exact Hp.mid2 (A := [o1, o2]) (B := x.hd) (C := flatX A) H
theorem XL.at_ (H : Hp σb (XL ib im X G) σ) (hx : x ∈ X) : σ x.ip = some (.cells (peC x.v x.is x.pv.e x.ig x.pv.fi)) ∧ σ x.is = some (.cells [spL x.tk x.pv.l]) := by
  obtain ⟨A, B, rfl⟩ := List.append_of_mem hx
  have K := XL.outX H
  exact ⟨K.get (k := 0) rfl, K.get (k := 1) rfl⟩
theorem xWhole (H : Hp σb (XL ib im X G) σ) (ok : XOk X) (sn : Int) : ACalls Try.prog i_rxbuf_Buffer_Whole [.ptr ib 0, i64v sn] σ fun v σ' => v = boolv (wholeS (pvs X) sn) ∧ σ' = σ := by
  unfold wholeS
  rcases findX ok.nd sn with ⟨A, x, B, hX, h1, h2, h3, _⟩ | ⟨h1, h2, h3⟩
  · have hx : x ∈ X := by rw [hX]; simp
    rw [h3]
    obtain ⟨g1, g2⟩ := XL.at_ H hx
    exact buWhole (H.get (k := 0) rfl) (H.get (k := 1) rfl) sn h2 g1 g2 (ok.ok x hx).so.mid
  · rw [h3]
    exact buWholeNone (H.get (k := 0) rfl) (H.get (k := 1) rfl) sn h2
theorem xMissing (H : Hp σb (XL ib im X G) σ) (ok : XOk X) (sn : Int) : ACalls Try.prog i_rxbuf_Buffer_Missing [.ptr ib 0, i64v sn] σ fun v σ' => v = spL .none (missS (pvs X) sn) ∧ σ' = σ := by
  unfold missS
  rcases findX ok.nd sn with ⟨A, x, B, hX, h1, h2, h3, _⟩ | ⟨h1, h2, h3⟩
  · have hx : x ∈ X := by rw [hX]; simp
    rw [h3]
    obtain ⟨g1, g2⟩ := XL.at_ H hx
    refine acall_less (buMissing (H.get (k := 0) rfl) (H.get (k := 1) rfl) sn h2 g1 g2 (ok.ok x hx).so) ?_
    rintro _ σ' ⟨u, hu, rfl⟩
    exact ⟨_, σ, VLe.slice _ _ _, hu.sub, rfl, rfl⟩
  · rw [h3]
    refine acall_less (buMissingNone (H.get (k := 0) rfl) (H.get (k := 1) rfl) sn h2) ?_
    rintro _ σ' ⟨rfl, rfl⟩
    exact ⟨_, _, VLe.slice _ _ _, Sub.refl _, rfl, rfl⟩
theorem lS_of {x : PX} (ok : XOk X) (hx : x ∈ X) : lS (pvs X) x.pv.sn = x.pv.l := by
  unfold lS
  rcases findX ok.nd x.pv.sn with ⟨A, y, B, hX, h1, h2, h3, h4, h5⟩ | ⟨h1, _⟩
  · rw [h3]
    rw [hX] at hx
    rcases List.mem_append.1 hx with hx | hx
    · exact absurd rfl (h4 x hx)
    · rcases List.mem_cons.1 hx with rfl | hx
      · rfl
      · exact absurd rfl (h5 x hx)
  · exact absurd rfl (h1 x hx)
theorem xBytes (H : Hp σb (XL ib im X G) σ) (ok : XOk X) : ACalls Try.prog i_rxbuf_Buffer_Bytes [.ptr ib 0] σ fun v σ' => v = i64v (bytesS (pvs X)) ∧ σ' = σ := by
  have := buBytes (dl := lS (pvs X)) (H.get (k := 0) rfl) (H.get (k := 1) rfl) (by rw [List.length_map]; have := ok.len; omega) (fun e he => by obtain ⟨x, hx, rfl⟩ := List.mem_map.1 he; exact (ok.ok x hx).sn)
    ⟨fun e he => by
      obtain ⟨x, hx, rfl⟩ := List.mem_map.1 he
      obtain ⟨g1, g2⟩ := XL.at_ H hx
      exact ⟨x.ip, x.v, x.is, x.pv.e, x.ig, x.pv.fi, x.tk, rfl, g1, by rw [lS_of ok hx]; exact g2, by rw [lS_of ok hx]; exact (ok.ok x hx).so⟩⟩
  have e : dueSum (lS (pvs X)) ((esX X).map (·.1)) = bytesS (pvs X) := by
    unfold dueSum bytesS
    rw [List.map_map, List.map_map, List.map_map]
    congr 1
    refine List.map_congr_left fun x hx => ?_
    show cntL (lS (pvs X) x.pv.sn) = cntL x.pv.l
    rw [lS_of ok hx]
  rw [e] at this
  exact this
end
end Go.Proofs.Ytgobbmdbkmjlnaa
