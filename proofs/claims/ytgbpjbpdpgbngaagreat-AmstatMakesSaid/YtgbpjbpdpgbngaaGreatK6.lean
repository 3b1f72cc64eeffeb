/-
  Texts of this claim, pack 6: Crxbe, Crxbf, Crxbg, Crxbh, Crxs, Crow, Cref03, Cref03b, Clawspa, Clawspb, Clawspc, Clawspd, Cref03c, Crel03, Csamef, Crefsz, Camdb, Cdra, Cdrb, Cdrc, Cdrd, Cfrza, Cdre, Cdrf.
-/
import Derived.Test.YtgbpjbpdpgbngaaGreatK3
import Derived.Test.YtgbpjbpdpgbngaaGreatK5
set_option linter.unusedSimpArgs false
set_option linter.unusedVariables false
/-
  What came in parts: what is missing, and what is taken.
-/
namespace Go.Proofs.YtgbpjbpdpgbngaaGreat
set_option maxRecDepth 20000
open Go Go.Am

/-- Is a place an edge? -/
def hasE (em : List (Int × AVal)) (k : Int) : Bool := (em.find? fun e => e.1 == k).isSome
def AllT (em : List (Int × AVal)) : Prop := ∀ x ∈ em, x.2 = trueV
theorem look_edge {em : List (Int × AVal)} (h : AllT em) (k : Int) : (((em.find? fun e => e.1 == k).map (·.2)).getD (.v (.bool false))) = boolv (hasE em k) := by
  unfold hasE
  cases hf : em.find? fun e => e.1 == k with
  | none => rfl
  | some x => rw [Option.map_some, Option.getD_some, h x (List.mem_of_find?_eq_some hf)]; rfl
theorem AllT.set : ∀ {em : List (Int × AVal)} {k : Int}, AllT em → AllT (mapSet em k trueV)
  | [], k, _ => fun x hx => by simp [mapSet] at hx; rw [hx]
  | (m, y) :: r, k, h => by
    intro x hx
    by_cases hm : m = k
    · simp [mapSet, hm] at hx
      rcases hx with rfl | hx
      · rfl
      · exact h x (List.mem_cons_of_mem _ hx)
    · simp [mapSet, hm] at hx
      rcases hx with rfl | hx
      · exact h _ (List.mem_cons_self ..)
      · exact AllT.set (fun z hz => h z (List.mem_cons_of_mem _ hz)) x hx
theorem hasE_set : ∀ {em : List (Int × AVal)} {k j : Int}, hasE (mapSet em k trueV) j = (decide (j = k) || hasE em j)
  | [], k, j => by
    by_cases h : j = k
    · subst h; simp [mapSet, hasE]
    · simp [mapSet, hasE, h, Ne.symm h]
  | (m, y) :: r, k, j => by
    have ih := hasE_set (em := r) (k := k) (j := j)
    by_cases hm : m = k
    · subst hm
      by_cases h : j = m
      · subst h; simp [mapSet, hasE]
      · simp [mapSet, hasE, h, Ne.symm h]
    · by_cases h : m = j
      · subst h; simp [mapSet, hasE, hm]
      · have hb : (m == j) = false := by simp [h]
        have e1 : mapSet ((m, y) :: r) k trueV = (m, y) :: mapSet r k trueV := by simp [mapSet, hm]
        unfold hasE at ih ⊢
        rw [e1, List.find?_cons, List.find?_cons]
        dsimp only
        rw [hb]
        exact ih
theorem AllT.noteN {p : Pk} {em : List (Int × AVal)} (h : AllT em) : ∀ k, AllT (noteN p em k)
  | 0 => h
  | k + 1 => by
    rw [show Go.Proofs.YtgbpjbpdpgbngaaGreat.noteN p em (k + 1) = if k > 0 then mapSet (Go.Proofs.YtgbpjbpdpgbngaaGreat.noteN p em k) (p.off + (total (p.fs.take k) : Int)) trueV else Go.Proofs.YtgbpjbpdpgbngaaGreat.noteN p em k from rfl]
    split
    · exact (AllT.noteN h k).set
    · exact AllT.noteN h k
theorem AllT.noteM {p : Pk} {ends : Bool} {em : List (Int × AVal)} (h : AllT em) : AllT (noteM p ends em) := by
  have h1 : AllT (note1 p em) := by
    unfold note1
    split
    · exact h
    · split
      · exact h.set
      · exact h
  unfold Go.Proofs.YtgbpjbpdpgbngaaGreat.noteM
  split
  · exact h1.noteN _
  · split
    · exact (h1.noteN _).set
    · exact h1.noteN _
/-- The fields so far, and where the next one begins. -/
def takeN (D : List UInt8) (em : List (Int × AVal)) (e : Int) : Nat → List (List UInt8) × Nat
  | 0 => ([], 0)
  | k + 1 => if ((k : Int) + 1 = e ∨ hasE em ((k : Int) + 1) = true) then ((takeN D em e k).1 ++ [(D.take (k + 1)).drop (takeN D em e k).2], k + 1) else takeN D em e k
theorem takeN_le (D : List UInt8) (em : List (Int × AVal)) (e : Int) : ∀ k, (takeN D em e k).2 ≤ k ∧ (takeN D em e k).1.length ≤ k
  | 0 => ⟨Nat.le_refl _, Nat.le_refl _⟩
  | k + 1 => by
    obtain ⟨h1, h2⟩ := takeN_le D em e k
    unfold takeN
    split
    · refine ⟨Nat.le_refl _, ?_⟩
      rw [List.length_append, List.length_singleton]; omega
    · exact ⟨by omega, by omega⟩

section
variable {σb σ : AHeap} {ib im ip is ig : Nat} {e fi : Int} {l : List Sp} {tk : Tok} {v : AVal} {D : List UInt8} {em es : List (Int × AVal)} {E G : List HE}
theorem gapsV_len {to : Int} : (gapsV to l).length ≤ l.length + 1 := by
  unfold gapsV
  split
  · exact gapsL_len
  · simp
theorem buMissing (b1 : σ ib = some (.cells (buC im))) (b2 : σ im = some (.map es)) (sn : Int) (he : es.find? (fun e => e.1 == sn) = some (sn, .ptr ip 0)) (b3 : σ ip = some (.cells (peC v is e ig fi))) (b4 : σ is = some (.cells [spL tk l])) (hs : SOk l) :
    ACalls Tryz.prog i_rxbuf_Buffer_Missing [.ptr ib 0, i64v sn] σ fun r σ' => ∃ u, Owned σ σ' u ∧ r = spL u (missL l e) := by
  refine k_rxbuf_Buffer_Missing rfl ?_
  have H := Hp.nil σ
  (refine wX ?_)
  refine acall (buFind b1 b2 sn he) ?_
  rintro _ σ_ ⟨rfl, e_⟩
  obtain rfl := e_.symm
  refine ⟨?_, Ext.refl _⟩
  (refine wX ?_)
  (repeat ((refine zB H b3 rfl ?_); (refine wX ?_)))
  unfold missL
  by_cases h : e = -1
  · rw [if_neg (fun k => k h)]
    (repeat ((first | refine zN (by omega) ?_ | refine zB H b3 rfl ?_); (refine wX ?_)))
    refine acall (peTop b3 b4 hs.mid) ?_
    rintro _ σ_ ⟨rfl, e_⟩
    obtain rfl := e_.symm
    refine ⟨?_, Ext.refl _⟩
    (refine wX ?_)
    refine acall (sGaps b4 hs (topL l)) ?_
    rintro _ τ ⟨u, hu, rfl⟩
    refine ⟨?_, hu.ext⟩
    have H := H.owned hu
    (refine wX ?_)
    refine acall (peTop (H.sub _ _ b3) (H.sub _ _ b4) hs.mid) ?_
    rintro _ σ_ ⟨rfl, e_⟩
    obtain rfl := e_.symm
    refine ⟨?_, Ext.refl _⟩
    (refine wX ?_)
    have hg := gapsV_len (l := l) (to := topL l)
    have hk := hs.k
    skip
    apply zP H
    · (repeat first | exact .h | apply AtK.t)
    · exact (by rw [List.length_map]; show (_ + 1) * 16 ≤ _; omega)
    intro tk2
    (conv => whnf)
    clear H
    intro τ H
    (refine wX ?_)
    rw [show [AVal.agg [i64v (topL l), AVal.v (.int .i64 0)]] = [spV (topL l, 0)] from rfl, sp_snoc]
    (refine wX ?_)
    skip
    obtain ⟨σ2, q1, q2⟩ := H.toOwned
    exact aret (VLe.refl _) q2 ⟨tk2, q1, rfl⟩
  · rw [if_pos h]
    (repeat ((first | refine zY (by omega) ?_ | refine zB H b3 rfl ?_); (refine wX ?_)))
    refine acall (sGaps b4 hs e) ?_
    rintro _ τ ⟨u, hu, rfl⟩
    refine ⟨?_, hu.ext⟩
    (refine wX ?_)
    exact aret (VLe.refl _) (Sub.refl _) ⟨u, hu, rfl⟩
theorem buMissingNone (b1 : σ ib = some (.cells (buC im))) (b2 : σ im = some (.map es)) (sn : Int) (he : es.find? (fun e => e.1 == sn) = none) :
    ACalls Tryz.prog i_rxbuf_Buffer_Missing [.ptr ib 0, i64v sn] σ fun r σ' => r = spL .full [] ∧ σ' = σ := by
  refine k_rxbuf_Buffer_Missing rfl ?_
  have H := Hp.nil σ
  (refine wX ?_)
  refine acall (buNone b1 b2 sn he) ?_
  rintro _ σ_ ⟨rfl, e_⟩
  obtain rfl := e_.symm
  refine ⟨?_, Ext.refl _⟩
  (refine wX ?_)
  skip
  exact aret (VLe.refl _) H.sub ⟨rfl, rfl⟩
theorem buTakeNone (b1 : σ ib = some (.cells (buC im))) (b2 : σ im = some (.map es)) (sn : Int) (he : es.find? (fun e => e.1 == sn) = none) :
    ACalls Tryz.prog i_rxbuf_Buffer_Take [.ptr ib 0, i64v sn] σ fun r σ' => r = .tup [i64v 0, .slice 1 [] .full, i64v 4] ∧ σ' = σ := by
  refine k_rxbuf_Buffer_Take rfl ?_
  have H := Hp.nil σ
  (refine wX ?_)
  refine acall (buNone b1 b2 sn he) ?_
  rintro _ σ_ ⟨rfl, e_⟩
  obtain rfl := e_.symm
  refine ⟨?_, Ext.refl _⟩
  (refine wX ?_)
  skip
  exact aret (VLe.refl _) H.sub ⟨rfl, rfl⟩
theorem buTakeShort (b1 : σ ib = some (.cells (buC im))) (b2 : σ im = some (.map es)) (sn : Int) (he : es.find? (fun e => e.1 == sn) = some (sn, .ptr ip 0)) (b3 : σ ip = some (.cells (peC v is e ig fi))) (b4 : σ is = some (.cells [spL tk l])) (hs : SOk l) (hw : wholeV l e = false) :
    ACalls Tryz.prog i_rxbuf_Buffer_Take [.ptr ib 0, i64v sn] σ fun r σ' => r = .tup [i64v 0, .slice 1 [] .full, i64v 8] ∧ σ' = σ := by
  refine k_rxbuf_Buffer_Take rfl ?_
  have H := Hp.nil σ
  (refine wX ?_)
  refine acall (buFind b1 b2 sn he) ?_
  rintro _ σ_ ⟨rfl, e_⟩
  obtain rfl := e_.symm
  refine ⟨?_, Ext.refl _⟩
  (refine wX ?_)
  skip
  refine acall (peWhole b3 b4 hs.mid) ?_
  rintro _ σ_ ⟨rfl, e_⟩
  obtain rfl := e_.symm
  refine ⟨?_, Ext.refl _⟩
  (refine wX ?_)
  rw [hw]
  (refine wX ?_)
  skip
  exact aret (VLe.refl _) H.sub ⟨rfl, rfl⟩
set_option maxHeartbeats 4000000 in
theorem buTake (h : RB v D E) (H : Hp σb (.o ib (.cells (buC im)) :: .o im (.map es) :: .o ip (.cells (peC v is e ig fi)) :: .o is (.cells [spL tk l]) :: .o ig (.map em) :: (E ++ G)) σ) (sn : Int) (he : es.find? (fun e => e.1 == sn) = some (sn, .ptr ip 0)) (hs : SOk l) (hw : wholeV l e = true)
    (hD : e ≤ D.length) (hD2 : D.length ≤ 1000000) (hem : AllT em) :
    ACalls Tryz.prog i_rxbuf_Buffer_Take [.ptr ib 0, i64v sn] σ fun r σ' => r = .tup [i64v fi, lists .none (takeN D em e e.toNat).1, i64v 0] ∧ Hp σb (.o ib (.cells (buC im)) :: .o im (.map (mapDel es sn)) :: .o ip (.cells (peC v is e ig fi)) :: .o is (.cells [spL tk l]) :: .o ig (.map em) :: (E ++ G)) σ' := by
  have he0 : 0 < e := by
    unfold wholeV at hw
    simp at hw
    omega
  cases h with
  | nil => simp at hD; omega
  | row r _ hDn =>
  replace H : Hp σb (.o ib (.cells (buC im)) :: .o im (.map es) :: .o ip (.cells (peC (.ms r 1 0 D.length) is e ig fi)) :: .o is (.cells [spL tk l]) :: .o ig (.map em) :: .o r (.cells (D.map byteV)) :: G) σ := H
  refine k_rxbuf_Buffer_Take rfl ?_
  (refine wX ?_)
  refine acall (buFind (H.get (k := 0) rfl) (H.get (k := 1) rfl) sn he) ?_
  rintro _ σ_ ⟨rfl, e_⟩
  obtain rfl := e_.symm
  refine ⟨?_, Ext.refl _⟩
  (refine wX ?_)
  skip
  refine acall (peWhole (H.get (k := 2) rfl) (H.get (k := 3) rfl) hs.mid) ?_
  rintro _ σ_ ⟨rfl, e_⟩
  obtain rfl := e_.symm
  refine ⟨?_, Ext.refl _⟩
  (refine wX ?_)
  rw [hw]
  (refine wX ?_)
  skip
  replace H := H.cons_full
  refine aloop (α := Nat × Tok × AHeap) (fun y => [(s11, i64v ((y.1 : Int) + 1)), (s10, i64v (takeN D em e y.1).2), (s9, lists y.2.1 (takeN D em e y.1).1)]) (fun y => y.2.2)
    (fun y => (y.1 : Int) ≤ e ∧ Hp σb (.t y.2.1 :: .o ib (.cells (buC im)) :: .o im (.map es) :: .o ip (.cells (peC (.ms r 1 0 D.length) is e ig fi)) :: .o is (.cells [spL tk l]) :: .o ig (.map em) :: .o r (.cells (D.map byteV)) :: G) y.2.2) (fun y => e.toNat + 1 - y.1)
    (0, .full, σ) ⟨by omega, H⟩ (Sub.refl _) ?_ ?_
  · (refine wX ?_)
    exact elX
  clear H
  rintro ⟨k, tk1, τ⟩ ⟨hk, H⟩
  dsimp only at hk H ⊢
  obtain ⟨hf, ho⟩ := takeN_le D em e k
  have hst : takeN D em e (k + 1) = if ((k : Int) + 1 = e ∨ hasE em ((k : Int) + 1) = true) then ((takeN D em e k).1 ++ [(D.take (k + 1)).drop (takeN D em e k).2], k + 1) else takeN D em e k := rfl
  (refine wX ?_)
  (repeat (((apply zL H; (· repeat first | exact .h | apply AtK.t); (· rfl))); (refine wX ?_)))
  by_cases hlt : (k : Int) + 1 ≤ e
  · (repeat ((first | refine zY (by omega) ?_ | (apply zL H; (· repeat first | exact .h | apply AtK.t); (· rfl))); (refine wX ?_)))
    by_cases hke : (k : Int) + 1 = e
    · have hs1 : takeN D em e (k + 1) = ((takeN D em e k).1 ++ [(D.take (k + 1)).drop (takeN D em e k).2], k + 1) := by rw [hst, if_pos (.inl hke)]
      (repeat ((first | refine zY (by omega) ?_ | (apply zL H; (· repeat first | exact .h | apply AtK.t); (· rfl))); (refine wX ?_)))
      refine acut (by omega) (by omega) (by omega) ?_
      (refine wX ?_)
      refine acutm (b := D) ⟨D, H.get (k := 6) rfl, by omega, by simp⟩ (by omega) (by omega) fun w hw2 => ?_
      rw [show ((k : Int) + 1).toNat = k + 1 by omega, Int.toNat_natCast] at hw2
      (refine wX ?_)
      refine acall_less (CloneS w _ τ hw2 (by rw [List.length_drop, List.length_take]; omega)) ?_
      rintro _ σ4 ⟨tk3, ho3, rfl⟩
      refine ⟨sl .none ((D.take (k + 1)).drop (takeN D em e k).2), τ, VLe.slice _ _ _, ho3.sub, ?_, Ext.refl _⟩
      (refine wX ?_)
      apply zP H
      · (repeat first | exact .h | apply AtK.t)
      · exact (by rw [List.length_map]; show (_ + 1) * 24 ≤ _; omega)
      intro tk2
      (conv => whnf)
      clear H
      intro τ H
      (refine wX ?_)
      rw [show (takeN D em e k).1.map (sl .none) ++ [sl .none ((D.take (k + 1)).drop (takeN D em e k).2)] = (takeN D em e (k + 1)).1.map (sl .none) by rw [hs1]; simp]
      (repeat ((refine zI (by omega) ?_); (refine wX ?_)))
      refine ⟨(k + 1, tk2, τ), ⟨by dsimp only; omega, H⟩, by dsimp only; omega, Sub.refl _, ?_⟩
      rw [show (((k + 1 : Nat) : Int)) = (k : Int) + 1 by omega]
      (refine wX ?_)
      rw [show (takeN D em e (k + 1)).2 = k + 1 by rw [hs1]]
      exact elX
    · (repeat ((first | refine zN (by omega) ?_ | (apply zL H; (· repeat first | exact .h | apply AtK.t); (· rfl))); (refine wX ?_)))
      refine hlook H (k := 5) rfl ?_
      rw [look_edge hem]
      rcases (show hasE em ((k : Int) + 1) = false ∨ hasE em ((k : Int) + 1) = true by cases hasE em ((k : Int) + 1) <;> simp) with hh | hh
      · have hs1 : takeN D em e (k + 1) = takeN D em e k := by rw [hst, if_neg (by rw [hh]; simp [hke])]
        rw [hh]
        (refine wX ?_)
        (repeat ((refine zI (by omega) ?_); (refine wX ?_)))
        refine ⟨(k + 1, tk1, τ), ⟨by dsimp only; omega, H⟩, by dsimp only; omega, Sub.refl _, ?_⟩
        rw [show (((k + 1 : Nat) : Int)) = (k : Int) + 1 by omega]
        (refine wX ?_)
        rw [hs1]
        exact elX
      · have hs1 : takeN D em e (k + 1) = ((takeN D em e k).1 ++ [(D.take (k + 1)).drop (takeN D em e k).2], k + 1) := by rw [hst, if_pos (.inr hh)]
        rw [hh]
        (refine wX ?_)
        (repeat (((apply zL H; (· repeat first | exact .h | apply AtK.t); (· rfl))); (refine wX ?_)))
        refine acut (by omega) (by omega) (by omega) ?_
        (refine wX ?_)
        refine acutm (b := D) ⟨D, H.get (k := 6) rfl, by omega, by simp⟩ (by omega) (by omega) fun w hw2 => ?_
        rw [show ((k : Int) + 1).toNat = k + 1 by omega, Int.toNat_natCast] at hw2
        (refine wX ?_)
        refine acall_less (CloneS w _ τ hw2 (by rw [List.length_drop, List.length_take]; omega)) ?_
        rintro _ σ4 ⟨tk3, ho3, rfl⟩
        refine ⟨sl .none ((D.take (k + 1)).drop (takeN D em e k).2), τ, VLe.slice _ _ _, ho3.sub, ?_, Ext.refl _⟩
        (refine wX ?_)
        apply zP H
        · (repeat first | exact .h | apply AtK.t)
        · exact (by rw [List.length_map]; show (_ + 1) * 24 ≤ _; omega)
        intro tk2
        (conv => whnf)
        clear H
        intro τ H
        (refine wX ?_)
        rw [show (takeN D em e k).1.map (sl .none) ++ [sl .none ((D.take (k + 1)).drop (takeN D em e k).2)] = (takeN D em e (k + 1)).1.map (sl .none) by rw [hs1]; simp]
        (repeat ((refine zI (by omega) ?_); (refine wX ?_)))
        refine ⟨(k + 1, tk2, τ), ⟨by dsimp only; omega, H⟩, by dsimp only; omega, Sub.refl _, ?_⟩
        rw [show (((k + 1 : Nat) : Int)) = (k : Int) + 1 by omega]
        (refine wX ?_)
        rw [show (takeN D em e (k + 1)).2 = k + 1 by rw [hs1]]
        exact elX
  · obtain rfl : k = e.toNat := by omega
    (repeat ((first | refine zN (by omega) ?_ | (apply zL H; (· repeat first | exact .h | apply AtK.t); (· rfl))); (refine wX ?_)))
    apply zMd H
    · (repeat first | exact .h | apply AtK.t)
    (conv => whnf)
    clear H
    intro τ H
    (refine wX ?_)
    (repeat (((apply zL H; (· repeat first | exact .h | apply AtK.t); (· rfl))); (refine wX ?_)))
    refine aret (VLe.tup (VLe.cons (VLe.refl _) (VLe.cons (VLe.slice _ _ _) (fun _ _ h => h)))) (Sub.refl _) ⟨rfl, H.tail⟩
end
end Go.Proofs.YtgbpjbpdpgbngaaGreat
/-
  What came in parts: how many bytes are there.
-/
namespace Go.Proofs.YtgbpjbpdpgbngaaGreat
open Go Go.Am

/-- What is there, of each piece. -/
structure KeptB (σ : AHeap) (es : List (Int × AVal)) (dl : Int → List Sp) : Prop where
  at_ : ∀ e ∈ es, ∃ ip v is ed ig fi tk, e.2 = .ptr ip 0 ∧ σ ip = some (.cells (peC v is ed ig fi)) ∧ σ is = some (.cells [spL tk (dl e.1)]) ∧ SOk (dl e.1)
end Go.Proofs.YtgbpjbpdpgbngaaGreat
/-
  What came in parts: a buffer, whatever pieces it has.
-/
namespace Go.Proofs.YtgbpjbpdpgbngaaGreat
set_option maxRecDepth 20000
open Go Go.Am

/-- A piece: its number, its bytes, what is there, its end, where fields begin, its FI. -/
structure PV where
  sn : Int
  D : List UInt8
  l : List Sp
  e : Int
  em : List (Int × AVal)
  fi : Int
structure PV.Ok (x : PV) : Prop where
  so : SOk x.l
  inD : ∀ y ∈ x.l, y.2 ≤ (x.D.length : Int)
  dl : x.D.length ≤ 4000
  em : AllT x.em
  sn : inR x.sn
/-- A piece in the heap. -/
structure PX where
  pv : PV
  ip : Nat
  is : Nat
  ig : Nat
  v : AVal
  E : List HE
  tk : Tok
abbrev PX.hd (x : PX) : List HE := [.o x.ip (.cells (peC x.v x.is x.pv.e x.ig x.pv.fi)), .o x.is (.cells [spL x.tk x.pv.l]), .o x.ig (.map x.pv.em)]
def flatX : List PX → List HE
  | [] => []
  | x :: X => x.hd ++ (x.E ++ flatX X)
theorem flatX_append : ∀ (A B : List PX), flatX (A ++ B) = flatX A ++ flatX B
  | [], B => rfl
  | x :: A, B => by
    show x.hd ++ (x.E ++ flatX (A ++ B)) = (x.hd ++ (x.E ++ flatX A)) ++ flatX B
    rw [flatX_append A B, List.append_assoc, List.append_assoc]
abbrev esX (X : List PX) : List (Int × AVal) := X.map fun x => (x.pv.sn, .ptr x.ip 0)
abbrev XL (ib im : Nat) (X : List PX) (G : List HE) : List HE := .o ib (.cells (buC im)) :: .o im (.map (esX X)) :: (flatX X ++ G)
structure XOk (X : List PX) : Prop where
  nd : (X.map (·.pv.sn)).Nodup
  ok : ∀ x ∈ X, x.pv.Ok
  rb : ∀ x ∈ X, RB x.v x.pv.D x.E
  len : X.length ≤ 10000
def findS (S : List PV) (sn : Int) : Option PV := S.find? fun x => x.sn == sn
def lS (S : List PV) (sn : Int) : List Sp := match findS S sn with
  | some x => x.l
  | none => []
def eS (S : List PV) (sn : Int) : Int := match findS S sn with
  | some x => x.e
  | none => -1
def wholeS (S : List PV) (sn : Int) : Bool := match findS S sn with
  | some x => wholeV x.l x.e
  | none => false
def missS (S : List PV) (sn : Int) : List Sp := match findS S sn with
  | some x => missL x.l x.e
  | none => []
def bytesS (S : List PV) : Int := (S.map fun x => cntL x.l).sum
def updV (x : PV) (p : Pk) : PV := ⟨x.sn, fillB x.l p.off.toNat p.fs.flatten x.D, addS (spanP p) x.l, noteE p (endsB p) x.e, noteM p (endsB p) x.em, noteF p (endsB p) x.fi⟩
def freshV (sn : Int) : PV := ⟨sn, [], [], -1, [], 0⟩
def putS (S : List PV) (p : Pk) : Int := putK p (lS S p.sn) (eS S p.sn)
def putV (S : List PV) (p : Pk) : List PV :=
  if putS S p ≠ 0 then S else match findS S p.sn with
    | some _ => S.map fun x => if x.sn = p.sn then updV x p else x
    | none => S ++ [updV (freshV p.sn) p]
abbrev pvs (X : List PX) : List PV := X.map (·.pv)

theorem findX {X : List PX} (hnd : (X.map (·.pv.sn)).Nodup) (sn : Int) :
    (∃ A x B, X = A ++ x :: B ∧ x.pv.sn = sn ∧ (esX X).find? (fun e => e.1 == sn) = some (sn, .ptr x.ip 0) ∧ findS (pvs X) sn = some x.pv ∧ (∀ y ∈ A, y.pv.sn ≠ sn) ∧ (∀ y ∈ B, y.pv.sn ≠ sn)) ∨
    ((∀ x ∈ X, x.pv.sn ≠ sn) ∧ (esX X).find? (fun e => e.1 == sn) = none ∧ findS (pvs X) sn = none) := by
  induction X with
  | nil => exact .inr ⟨nofun, rfl, rfl⟩
  | cons a X ih =>
    rw [List.map_cons, List.nodup_cons] at hnd
    by_cases h : a.pv.sn = sn
    · refine .inl ⟨[], a, X, rfl, h, ?_, ?_, nofun, fun y hy e => hnd.1 (by rw [h, ← e]; exact List.mem_map_of_mem (f := fun x : PX => x.pv.sn) hy)⟩
      · show List.find? _ ((a.pv.sn, AVal.ptr a.ip 0) :: esX X) = _
        rw [List.find?_cons]; simp [h]
      · show List.find? _ (a.pv :: pvs X) = _
        rw [List.find?_cons]; simp [h]
    · have hb : (a.pv.sn == sn) = false := by simp [h]
      have q1 : (esX (a :: X)).find? (fun e => e.1 == sn) = (esX X).find? (fun e => e.1 == sn) := by
        show List.find? _ ((a.pv.sn, AVal.ptr a.ip 0) :: esX X) = _
        rw [List.find?_cons]; dsimp only; rw [hb]
      have q2 : findS (pvs (a :: X)) sn = findS (pvs X) sn := by
        show List.find? _ (a.pv :: pvs X) = _
        rw [List.find?_cons, hb]; rfl
      rw [q1, q2]
      rcases ih hnd.2 with ⟨A, x, B, rfl, h1, h2, h3, h4, h5⟩ | ⟨h1, h2, h3⟩
      · refine .inl ⟨a :: A, x, B, rfl, h1, h2, h3, fun y hy => ?_, h5⟩
        rcases List.mem_cons.1 hy with rfl | hy
        · exact h
        · exact h4 y hy
      · refine .inr ⟨fun y hy => ?_, h2, h3⟩
        rcases List.mem_cons.1 hy with rfl | hy
        · exact h
        · exact h1 y hy
section
variable {σb σ : AHeap} {ib im : Nat} {X A B : List PX} {x : PX} {G : List HE} {o1 o2 : HE}
theorem XL.outX (H : Hp σb (o1 :: o2 :: (flatX (A ++ x :: B) ++ G)) σ) : Hp σb (x.hd ++ (o1 :: o2 :: (x.E ++ (flatX A ++ (flatX B ++ G))))) σ := by
  rw [flatX_append, show flatX (x :: B) = x.hd ++ (x.E ++ flatX B) from rfl, List.append_assoc, List.append_assoc, List.append_assoc] at H
  have H := Hp.mid2 (A := [o1, o2]) (B := flatX A) (C := x.hd) H
  have H := Hp.mid2 (A := [o1, o2] ++ x.hd) (B := flatX A) (C := x.E) (D := flatX B ++ G) (by rw [List.append_assoc]; exact H)
  rw [List.append_assoc] at H
  exact Hp.mid (A := [o1, o2]) (B := x.hd) H
theorem XL.backX (H : Hp σb (x.hd ++ (o1 :: o2 :: (x.E ++ (flatX A ++ (flatX B ++ G))))) σ) : Hp σb (o1 :: o2 :: (flatX (A ++ x :: B) ++ G)) σ := by
  rw [flatX_append, show flatX (x :: B) = x.hd ++ (x.E ++ flatX B) from rfl, List.append_assoc, List.append_assoc, List.append_assoc]
  have H := Hp.mid (A := x.hd) (B := [o1, o2]) H
  have H := Hp.mid2 (A := [o1, o2] ++ x.hd) (B := x.E) (C := flatX A) (D := flatX B ++ G) (by rw [List.append_assoc]; exact H)
  rw [List.append_assoc] at H
  exact Hp.mid2 (A := [o1, o2]) (B := x.hd) (C := flatX A) H
theorem XL.at_ (H : Hp σb (XL ib im X G) σ) (hx : x ∈ X) : σ x.ip = some (.cells (peC x.v x.is x.pv.e x.ig x.pv.fi)) ∧ σ x.is = some (.cells [spL x.tk x.pv.l]) := by
  obtain ⟨A, B, rfl⟩ := List.append_of_mem hx
  have K := XL.outX H
  exact ⟨K.get (k := 0) rfl, K.get (k := 1) rfl⟩
theorem xWhole (H : Hp σb (XL ib im X G) σ) (ok : XOk X) (sn : Int) : ACalls Tryz.prog i_rxbuf_Buffer_Whole [.ptr ib 0, i64v sn] σ fun v σ' => v = boolv (wholeS (pvs X) sn) ∧ σ' = σ := by
  unfold wholeS
  rcases findX ok.nd sn with ⟨A, x, B, hX, h1, h2, h3, _⟩ | ⟨h1, h2, h3⟩
  · have hx : x ∈ X := by rw [hX]; simp
    rw [h3]
    obtain ⟨g1, g2⟩ := XL.at_ H hx
    exact buWhole (H.get (k := 0) rfl) (H.get (k := 1) rfl) sn h2 g1 g2 (ok.ok x hx).so.mid
  · rw [h3]
    exact buWholeNone (H.get (k := 0) rfl) (H.get (k := 1) rfl) sn h2
theorem xMissing (H : Hp σb (XL ib im X G) σ) (ok : XOk X) (sn : Int) : ACalls Tryz.prog i_rxbuf_Buffer_Missing [.ptr ib 0, i64v sn] σ fun v σ' => v = spL .none (missS (pvs X) sn) ∧ σ' = σ := by
  unfold missS
  rcases findX ok.nd sn with ⟨A, x, B, hX, h1, h2, h3, _⟩ | ⟨h1, h2, h3⟩
  · have hx : x ∈ X := by rw [hX]; simp
    rw [h3]
    obtain ⟨g1, g2⟩ := XL.at_ H hx
    refine acall_less (buMissing (H.get (k := 0) rfl) (H.get (k := 1) rfl) sn h2 g1 g2 (ok.ok x hx).so) ?_
    rintro _ σ' ⟨u, hu, rfl⟩
    exact ⟨_, σ, VLe.slice _ _ _, hu.sub, rfl, rfl⟩
  · rw [h3]
    refine acall_less (buMissingNone (H.get (k := 0) rfl) (H.get (k := 1) rfl) sn h2) ?_
    rintro _ σ' ⟨rfl, rfl⟩
    exact ⟨_, _, VLe.slice _ _ _, Sub.refl _, rfl, rfl⟩
end
end Go.Proofs.YtgbpjbpdpgbngaaGreat
/-
  What came in parts: what Put and Take do with a buffer, whatever pieces it has.
-/
namespace Go.Proofs.YtgbpjbpdpgbngaaGreat
set_option maxRecDepth 20000
open Go Go.Am

theorem putK_zero {p : Pk} {l : List Sp} {e : Int} (h : putK p l e = 0) : rightB p = true ∧ fitsC l e (spanP p) (endsB p) = 0 ∧ addC (spanP p) l = 0 := by
  unfold putK at h
  split at h
  · cases h
  · rename_i hr
    have hr : rightB p = true := by simpa using hr
    split at h
    · rename_i hc; exact absurd h hc
    · rename_i hc
      exact ⟨hr, Decidable.byContradiction hc, h⟩
theorem PV.Ok.upd {x : PV} (h : x.Ok) {p : Pk} (hk : putK p x.l x.e = 0) : (updV x p).Ok := by
  obtain ⟨hr, hc, ha⟩ := putK_zero hk
  obtain ⟨g1, g2, g3, g4, g5, g6, g7, g8, g9⟩ := right_ok hr
  have htl : p.fs.flatten.length = total p.fs := rfl
  have hlen : (fillB x.l p.off.toNat p.fs.flatten x.D).length = max x.D.length (p.off.toNat + p.fs.flatten.length) := fillB_len _ _ _ _
  have hdl := h.dl
  refine ⟨h.so.add _, fun y hy => ?_, ?_, h.em.noteM, h.sn⟩
  · have hn := (h.so.add (spanP p)).n.mem hy
    have hp : hasP (addS (spanP p) x.l) (y.2 - 1) := ⟨y, hy, by omega, by omega⟩
    show y.2 ≤ ((fillB x.l p.off.toNat p.fs.flatten x.D).length : Int)
    rw [hlen]
    rcases (add_has h.so ha _).1 hp with ⟨z, hz, h1, h2⟩ | ⟨h1, h2⟩
    · have := h.inD z hz; omega
    · unfold spanP at h2; dsimp only at h2; omega
  · show (fillB x.l p.off.toNat p.fs.flatten x.D).length ≤ 4000
    rw [hlen]; omega
theorem PV.Ok.fresh {sn : Int} (h : inR sn) : (freshV sn).Ok := ⟨SOk.nil, nofun, by simp [freshV], nofun, h⟩
theorem map_upd {A B : List PV} {x : PV} {p : Pk} (hx : x.sn = p.sn) (hA : ∀ y ∈ A, y.sn ≠ p.sn) (hB : ∀ y ∈ B, y.sn ≠ p.sn) :
    (A ++ x :: B).map (fun x => if x.sn = p.sn then updV x p else x) = A ++ updV x p :: B := by
  have id_ : ∀ (L : List PV), (∀ y ∈ L, y.sn ≠ p.sn) → L.map (fun x => if x.sn = p.sn then updV x p else x) = L := by
    intro L hL
    induction L with
    | nil => rfl
    | cons a L ih => rw [List.map_cons, if_neg (hL a (List.mem_cons_self ..)), ih fun y hy => hL y (List.mem_cons_of_mem _ hy)]
  rw [List.map_append, List.map_cons, if_pos hx, id_ A hA, id_ B hB]
section
variable {σb σ : AHeap} {ib im : Nat} {X A B : List PX} {x : PX} {G : List HE}
theorem XOk.swap {x' : PX} (ok : XOk (A ++ x :: B)) (hs : x'.pv.sn = x.pv.sn) (h1 : x'.pv.Ok) (h2 : RB x'.v x'.pv.D x'.E) : XOk (A ++ x' :: B) := by
  refine ⟨?_, fun y hy => ?_, fun y hy => ?_, ?_⟩
  · have := ok.nd
    rw [List.map_append, List.map_cons] at this ⊢
    rw [hs]; exact this
  · rcases List.mem_append.1 hy with hy | hy
    · exact ok.ok y (by simp [hy])
    · rcases List.mem_cons.1 hy with rfl | hy
      · exact h1
      · exact ok.ok y (by simp [hy])
  · rcases List.mem_append.1 hy with hy | hy
    · exact ok.rb y (by simp [hy])
    · rcases List.mem_cons.1 hy with rfl | hy
      · exact h2
      · exact ok.rb y (by simp [hy])
  · have := ok.len
    simp at this ⊢; exact this
theorem xPut (H : Hp σb (XL ib im X G) σ) (ok : XOk X) (hlen : X.length < 10000) (p : Pk) (hl : p.fs.length ≤ 1000) (ht : total p.fs ≤ 1000000) (hsn : inR p.sn) :
    ACalls Tryz.prog i_rxbuf_Buffer_Put [.ptr ib 0, amV p] σ fun r σ' => r = i64v (putS (pvs X) p) ∧ ∃ X', Hp σb (XL ib im X' G) σ' ∧ pvs X' = putV (pvs X) p ∧ XOk X' ∧ X'.length ≤ X.length + 1 := by
  rcases findX ok.nd p.sn with ⟨A, x, B, hX, h1, h2, h3, h4, h5⟩ | ⟨h1, h2, h3⟩
  · have hx : x ∈ X := by rw [hX]; simp
    have hxo := ok.ok x hx
    have hdl := hxo.dl
    have hS : putS (pvs X) p = putK p x.pv.l x.pv.e := by unfold putS lS eS; rw [h3]
    have hV : putV (pvs X) p = if putK p x.pv.l x.pv.e ≠ 0 then pvs X else (pvs X).map fun x => if x.sn = p.sn then updV x p else x := by unfold putV; rw [hS, h3]
    rw [hS, hV]
    subst hX
    refine acall_less (buPutOld (ok.rb x hx) (XL.outX H) p h2 hxo.so (by omega) hl ht) ?_
    rintro _ σ' ⟨rfl, ⟨hk, u, K⟩ | ⟨hk, v2, E2, u, hr, K⟩⟩
    · refine ⟨_, _, VLe.refl _, Sub.refl _, rfl, A ++ { x with tk := u } :: B, ?_, ?_, ok.swap rfl hxo (ok.rb x hx), by simp⟩
      · have e : esX (A ++ { x with tk := u } :: B) = esX (A ++ x :: B) := by simp [esX]
        show Hp σb (.o ib (.cells (buC im)) :: .o im (.map (esX (A ++ { x with tk := u } :: B))) :: (flatX (A ++ { x with tk := u } :: B) ++ G)) σ'
        rw [e]
        exact XL.backX (x := { x with tk := u }) K
      · rw [if_pos hk]; simp [pvs]
    · have hpo := PV.Ok.upd hxo hk
      let x' : PX := ⟨updV x.pv p, x.ip, x.is, x.ig, v2, E2, u⟩
      refine ⟨_, _, VLe.refl _, Sub.refl _, rfl, A ++ x' :: B, ?_, ?_, ok.swap rfl hpo hr, by simp⟩
      · have e : esX (A ++ x' :: B) = esX (A ++ x :: B) := by simp [esX, x', updV]
        show Hp σb (.o ib (.cells (buC im)) :: .o im (.map (esX (A ++ x' :: B))) :: (flatX (A ++ x' :: B) ++ G)) σ'
        rw [e]
        exact XL.backX (x := x') K
      · rw [if_neg (by simpa using hk)]
        show (A ++ x' :: B).map (·.pv) = ((A ++ x :: B).map (·.pv)).map _
        rw [List.map_append, List.map_append, List.map_cons, List.map_cons]
        refine (map_upd h1 (fun y hy => ?_) (fun y hy => ?_)).symm
        · obtain ⟨z, hz, rfl⟩ := List.mem_map.1 hy; exact h4 z hz
        · obtain ⟨z, hz, rfl⟩ := List.mem_map.1 hy; exact h5 z hz
  · have hS : putS (pvs X) p = putK p [] (-1) := by unfold putS lS eS; rw [h3]
    have hV : putV (pvs X) p = if putK p [] (-1) ≠ 0 then pvs X else pvs X ++ [updV (freshV p.sn) p] := by unfold putV; rw [hS, h3]
    rw [hS, hV]
    refine acall_less (buPutNew H p h2 hl ht) ?_
    rintro _ σ' ⟨rfl, ⟨hk, K⟩ | ⟨hk, ip, is, ig, v2, E2, u, hr, K⟩⟩
    · exact ⟨_, _, VLe.refl _, Sub.refl _, rfl, X, K, by rw [if_pos hk], ok, by omega⟩
    · have hpo := PV.Ok.upd (PV.Ok.fresh hsn) (p := p) hk
      let x' : PX := ⟨updV (freshV p.sn) p, ip, is, ig, v2, E2, u⟩
      refine ⟨_, _, VLe.refl _, Sub.refl _, rfl, X ++ [x'], ?_, by rw [if_neg (by simpa using hk)]; simp [pvs, x'], ?_, by simp⟩
      · have e : esX (X ++ [x']) = esX X ++ [(p.sn, .ptr ip 0)] := by simp [esX, x', updV, freshV]
        show Hp σb (.o ib (.cells (buC im)) :: .o im (.map (esX (X ++ [x']))) :: (flatX (X ++ [x']) ++ G)) σ'
        rw [e]
        refine XL.backX (A := X) (B := []) (x := x') ?_
        exact Hp.mid2 (A := x'.hd ++ [.o ib (.cells (buC im)), .o im (.map (esX X ++ [(p.sn, .ptr ip 0)]))]) (B := []) (C := E2) (D := flatX X ++ G) K
      · refine ⟨?_, fun y hy => ?_, fun y hy => ?_, ?_⟩
        · rw [List.map_append]
          refine List.nodup_append.2 ⟨ok.nd, by simp, fun a ha b hb e => ?_⟩
          obtain ⟨z, hz, rfl⟩ := List.mem_map.1 ha
          simp [x', updV, freshV] at hb
          exact h1 z hz (by rw [e, hb])
        · rcases List.mem_append.1 hy with hy | hy
          · exact ok.ok y hy
          · rw [List.mem_singleton.1 hy]; exact hpo
        · rcases List.mem_append.1 hy with hy | hy
          · exact ok.rb y hy
          · rw [List.mem_singleton.1 hy]; exact hr
        · simp; omega
/-- What Take leaves. -/
def takeS (S : List PV) (sn : Int) : List PV := if wholeS S sn = true then S.filter fun x => decide (x.sn ≠ sn) else S
def takeC (S : List PV) (sn : Int) : Int := match findS S sn with
  | none => 4
  | some x => if wholeV x.l x.e = true then 0 else 8
def takeF (S : List PV) (sn : Int) : Int × List (List UInt8) := match findS S sn with
  | none => (0, [])
  | some x => if wholeV x.l x.e = true then (x.fi, (takeN x.D x.em x.e x.e.toNat).1) else (0, [])
theorem mapDel_split {A B : List PX} {x : PX} {sn : Int} (hx : x.pv.sn = sn) (hA : ∀ y ∈ A, y.pv.sn ≠ sn) : mapDel (esX (A ++ x :: B)) sn = esX (A ++ B) := by
  induction A with
  | nil => simp [esX, mapDel, hx]
  | cons a A ih =>
    have := ih fun y hy => hA y (List.mem_cons_of_mem _ hy)
    have h0 := hA a (List.mem_cons_self ..)
    simp [esX, mapDel, h0] at this ⊢
    exact this
theorem xTake (H : Hp σb (XL ib im X G) σ) (ok : XOk X) (sn : Int) :
    ACalls Tryz.prog i_rxbuf_Buffer_Take [.ptr ib 0, i64v sn] σ fun r σ' => r = .tup [i64v (takeF (pvs X) sn).1, lists .none (takeF (pvs X) sn).2, i64v (takeC (pvs X) sn)] ∧ ∃ X', Hp σb (XL ib im X' G) σ' ∧ pvs X' = takeS (pvs X) sn ∧ XOk X' ∧ X'.length ≤ X.length := by
  unfold takeF takeC takeS wholeS
  rcases findX ok.nd sn with ⟨A, x, B, hX, h1, h2, h3, h4, h5⟩ | ⟨h1, h2, h3⟩
  · have hx : x ∈ X := by rw [hX]; simp
    have hxo := ok.ok x hx
    have hdl := hxo.dl
    rw [h3]
    dsimp only
    rcases (show wholeV x.pv.l x.pv.e = false ∨ wholeV x.pv.l x.pv.e = true by cases wholeV x.pv.l x.pv.e <;> simp) with hw | hw
    · rw [if_neg (by rw [hw]; simp), if_neg (by rw [hw]; simp), if_neg (by rw [hw]; simp)]
      obtain ⟨g1, g2⟩ := XL.at_ H hx
      refine acall_less (buTakeShort (H.get (k := 0) rfl) (H.get (k := 1) rfl) sn h2 g1 g2 hxo.so hw) ?_
      rintro _ σ' ⟨rfl, rfl⟩
      exact ⟨_, _, VLe.tup (VLe.cons (VLe.refl _) (VLe.cons (VLe.slice _ _ _) fun _ _ h => h)), Sub.refl _, rfl, X, H, rfl, ok, Nat.le_refl _⟩
    · rw [if_pos hw, if_pos hw, if_pos hw]
      have hD : x.pv.e ≤ (x.pv.D.length : Int) := by
        unfold wholeV hasS at hw
        rw [Bool.and_eq_true, Bool.and_eq_true] at hw
        obtain ⟨y, hy, h⟩ := List.any_eq_true.1 hw.2.2
        have := hxo.inD y hy
        have := of_decide_eq_true h
        dsimp only at this
        omega
      subst hX
      have K := XL.outX H
      replace K : Hp σb (.o ib (.cells (buC im)) :: .o im (.map (esX (A ++ x :: B))) :: (x.hd ++ (x.E ++ (flatX A ++ (flatX B ++ G))))) σ := Hp.mid (A := x.hd) (B := [.o ib (.cells (buC im)), .o im (.map (esX (A ++ x :: B)))]) K
      refine acall_less (buTake (ok.rb x hx) K sn h2 hxo.so hw hD (by omega) hxo.em) ?_
      rintro _ σ' ⟨rfl, K⟩
      rw [mapDel_split h1 h4] at K
      refine ⟨_, _, VLe.refl _, Sub.refl _, rfl, A ++ B, ?_, ?_, ?_, by simp⟩
      · have K := Hp.rest (A := x.hd) (Hp.mid (A := [.o ib (.cells (buC im)), .o im (.map (esX (A ++ B)))]) (B := x.hd) K)
        have K := Hp.rest (A := x.E) (Hp.mid (A := [.o ib (.cells (buC im)), .o im (.map (esX (A ++ B)))]) (B := x.E) K)
        show Hp σb (.o ib (.cells (buC im)) :: .o im (.map (esX (A ++ B))) :: (flatX (A ++ B) ++ G)) σ'
        rw [flatX_append, List.append_assoc]
        exact K
      · show (A ++ B).map (·.pv) = ((A ++ x :: B).map (·.pv)).filter _
        rw [List.map_append, List.map_append, List.map_cons, List.filter_append, List.filter_cons]
        rw [if_neg (by simp [h1])]
        rw [List.filter_eq_self.2, List.filter_eq_self.2]
        · intro y hy; obtain ⟨z, hz, rfl⟩ := List.mem_map.1 hy; exact decide_eq_true (h5 z hz)
        · intro y hy; obtain ⟨z, hz, rfl⟩ := List.mem_map.1 hy; exact decide_eq_true (h4 z hz)
      · refine ⟨?_, fun y hy => ok.ok y ?_, fun y hy => ok.rb y ?_, ?_⟩
        · have := ok.nd
          rw [List.map_append, List.map_cons] at this
          rw [List.map_append]
          exact this.sublist (List.Sublist.append_left (List.sublist_cons_self _ _) _)
        · rcases List.mem_append.1 hy with hy | hy <;> simp [hy]
        · rcases List.mem_append.1 hy with hy | hy <;> simp [hy]
        · have := ok.len
          simp at this ⊢; omega
  · rw [h3]
    dsimp only
    rw [if_neg (by simp)]
    refine acall_less (buTakeNone (H.get (k := 0) rfl) (H.get (k := 1) rfl) sn h2) ?_
    rintro _ σ' ⟨rfl, rfl⟩
    exact ⟨_, _, VLe.tup (VLe.cons (VLe.refl _) (VLe.cons (VLe.slice _ _ _) fun _ _ h => h)), Sub.refl _, rfl, X, H, rfl, ok, Nat.le_refl _⟩
end
end Go.Proofs.YtgbpjbpdpgbngaaGreat
/-
  What came in parts: bytes that are filled in, and edges; plain.
-/
namespace Go.Proofs.YtgbpjbpdpgbngaaGreat
set_option maxRecDepth 20000
open Go Go.Am

section
variable {q : Pk}
/-- Bytes that are filled in. -/
theorem fillN_get {l : List Sp} {f : Nat} {d D : List UInt8} : ∀ {k j : Nat}, k ≤ d.length → f + d.length ≤ D.length → (fillN l f d D k)[j]? = if f ≤ j ∧ j < f + k ∧ hasS ((j : Int), (j : Int) + 1) l = false then d[j - f]? else D[j]?
  | 0, j, _, _ => by
    rw [if_neg (by omega)]; rfl
  | k + 1, j, hk, hD => by
    have ih := fillN_get (l := l) (f := f) (d := d) (D := D) (k := k) (j := j) (by omega) hD
    have hlen := fillN_len l f d D k
    have e : fillN l f d D (k + 1) = if hasS ((f : Int) + (k : Int), (f : Int) + (k : Int) + 1) l = true then fillN l f d D k else (fillN l f d D k).set (f + k) (d[k]?.getD 0) := rfl
    rw [e]
    by_cases hj : j = f + k
    · subst hj
      rw [show (((f + k : Nat)) : Int) = (f : Int) + (k : Int) by omega] at ih ⊢
      rw [if_neg (by omega)] at ih
      by_cases hh : hasS ((f : Int) + (k : Int), (f : Int) + (k : Int) + 1) l = true
      · rw [if_pos hh, if_neg (by rw [hh]; simp)]; exact ih
      · have hh' : hasS ((f : Int) + (k : Int), (f : Int) + (k : Int) + 1) l = false := by simpa using hh
        rw [if_neg hh, if_pos ⟨by omega, by omega, hh'⟩, List.getElem?_set_self (by omega), show f + k - f = k by omega, List.getElem?_eq_getElem (by omega)]; rfl
    · have same : (if hasS ((f : Int) + (k : Int), (f : Int) + (k : Int) + 1) l = true then fillN l f d D k else (fillN l f d D k).set (f + k) (d[k]?.getD 0))[j]? = (fillN l f d D k)[j]? := by
        split
        · rfl
        · rw [List.getElem?_set_ne (fun e => hj e.symm)]
      rw [same, ih]
      by_cases hc : f ≤ j ∧ j < f + k ∧ hasS ((j : Int), (j : Int) + 1) l = false
      · rw [if_pos hc, if_pos ⟨hc.1, by omega, hc.2.2⟩]
      · rw [if_neg hc, if_neg (fun g => hc ⟨g.1, by omega, g.2.2⟩)]
theorem hasE_note1 {em : List (Int × AVal)} {k : Int} : hasE (note1 q em) k = (hasE em k || decide (q.off ≠ 0 ∧ bitsOp .and .i64 q.fi 2 = 0 ∧ k = q.off)) := by
  unfold note1
  by_cases h0 : q.off = 0
  · rw [if_pos h0]; simp [h0]
  · rw [if_neg h0]
    by_cases hb : bitsOp .and .i64 q.fi 2 = 0
    · rw [if_pos hb, hasE_set]; simp [h0, hb, Bool.or_comm]
    · rw [if_neg hb]; simp [hb]
theorem hasE_noteN {em : List (Int × AVal)} {k : Int} : ∀ m, hasE (noteN q em m) k = true ↔ hasE em k = true ∨ ∃ i, 0 < i ∧ i < m ∧ k = q.off + (total (q.fs.take i) : Int)
  | 0 => ⟨.inl, fun h => h.elim id fun ⟨i, _, h, _⟩ => absurd h (by omega)⟩
  | m + 1 => by
    have e : noteN q em (m + 1) = if m > 0 then mapSet (noteN q em m) (q.off + (total (q.fs.take m) : Int)) trueV else noteN q em m := rfl
    have ih := hasE_noteN (em := em) (k := k) m
    have ext : (∃ i, 0 < i ∧ i < m + 1 ∧ k = q.off + (total (q.fs.take i) : Int)) ↔ (∃ i, 0 < i ∧ i < m ∧ k = q.off + (total (q.fs.take i) : Int)) ∨ (m > 0 ∧ k = q.off + (total (q.fs.take m) : Int)) := by
      constructor
      · rintro ⟨i, h1, h2, h3⟩
        by_cases hi : i = m
        · subst hi; exact .inr ⟨h1, h3⟩
        · exact .inl ⟨i, h1, by omega, h3⟩
      · rintro (⟨i, h1, h2, h3⟩ | ⟨h1, h2⟩)
        · exact ⟨i, h1, by omega, h3⟩
        · exact ⟨m, h1, by omega, h2⟩
    rw [e, ext]
    by_cases hm : m > 0
    · rw [if_pos hm, hasE_set, Bool.or_eq_true, decide_eq_true_iff, ih]
      constructor
      · rintro (h | h | h)
        · exact .inr (.inr ⟨hm, h⟩)
        · exact .inl h
        · exact .inr (.inl h)
      · rintro (h | h | h)
        · exact .inr (.inl h)
        · exact .inr (.inr h)
        · exact .inl h.2
    · rw [if_neg hm, ih]
      constructor
      · rintro (h | h)
        · exact .inl h
        · exact .inr (.inl h)
      · rintro (h | h | h)
        · exact .inl h
        · exact .inr h
        · exact absurd h.1 hm
theorem hasE_noteM {ends : Bool} {em : List (Int × AVal)} {k : Int} : hasE (noteM q ends em) k = true ↔ hasE em k = true ∨ (q.off ≠ 0 ∧ bitsOp .and .i64 q.fi 2 = 0 ∧ k = q.off) ∨ (∃ i, 0 < i ∧ i < q.fs.length ∧ k = q.off + (total (q.fs.take i) : Int)) ∨ (ends = false ∧ bitsOp .and .i64 q.fi 1 = 0 ∧ k = q.off + (total q.fs : Int)) := by
  have hN : hasE (noteN q (note1 q em) q.fs.length) k = true ↔ hasE em k = true ∨ (q.off ≠ 0 ∧ bitsOp .and .i64 q.fi 2 = 0 ∧ k = q.off) ∨ (∃ i, 0 < i ∧ i < q.fs.length ∧ k = q.off + (total (q.fs.take i) : Int)) := by
    rw [hasE_noteN, hasE_note1, Bool.or_eq_true, decide_eq_true_iff, or_assoc]
  unfold noteM
  cases ends
  · rw [if_neg (by simp)]
    by_cases hb : bitsOp .and .i64 q.fi 1 = 0
    · rw [if_pos hb, hasE_set, Bool.or_eq_true, decide_eq_true_iff, hN]
      constructor
      · rintro (h | h | h | h)
        · exact .inr (.inr (.inr ⟨rfl, hb, h⟩))
        · exact .inl h
        · exact .inr (.inl h)
        · exact .inr (.inr (.inl h))
      · rintro (h | h | h | h)
        · exact .inr (.inl h)
        · exact .inr (.inr (.inl h))
        · exact .inr (.inr (.inr h))
        · exact .inl h.2.2
    · rw [if_neg hb, hN]
      constructor
      · rintro (h | h | h)
        · exact .inl h
        · exact .inr (.inl h)
        · exact .inr (.inr (.inl h))
      · rintro (h | h | h | h)
        · exact .inl h
        · exact .inr (.inl h)
        · exact .inr (.inr h)
        · exact absurd h.2.1 hb
  · rw [if_pos rfl, hN]
    constructor
    · rintro (h | h | h)
      · exact .inl h
      · exact .inr (.inl h)
      · exact .inr (.inr (.inl h))
    · rintro (h | h | h | h)
      · exact .inl h
      · exact .inr (.inl h)
      · exact .inr (.inr h)
      · cases h.1
end
def fiV (A B : Bool) : Int := (if A = true then 2 else 0) + (if B = true then 1 else 0)
theorem fi_or2 : ∀ A B w : Bool, bitsOp .or .i64 (fiV A B) (if w = true then 2 else 0) = fiV (A || w) B := by decide +kernel
theorem fi_or1 : ∀ A B w : Bool, bitsOp .or .i64 (fiV A B) (if w = true then 1 else 0) = fiV A (B || w) := by decide +kernel
end Go.Proofs.YtgbpjbpdpgbngaaGreat
/-
  Rows that are stored into: of truths; of spans.
-/
namespace Go.Proofs.YtgbpjbpdpgbngaaGreat
open Go Go.Am

def bitT (l : List Bool) (i : Nat) : Bool := (l[i]?).getD false
theorem bitT_get {l : List Bool} {i : Nat} (h : i < l.length) : bitT l i = l[i] := by unfold bitT; rw [List.getElem?_eq_getElem h]; rfl
theorem bitT_no {l : List Bool} {i : Nat} (h : l.length ≤ i) : bitT l i = false := by unfold bitT; rw [List.getElem?_eq_none h]; rfl
/-- A row of truths that is stored into, or none yet. -/
inductive RT2 : AVal → List Bool → List HE → Prop
  | nil : RT2 (.slice 1 [] .full) [] []
  | row (r : Nat) (xs : List Bool) : xs ≠ [] → RT2 (.ms r 1 0 xs.length) xs [.o r (.cells (xs.map boolv))]
def TOk (σ : AHeap) (v : AVal) (L : List Bool) : Prop := (v = .slice 1 [] .full ∧ L = []) ∨ ∃ r, v = .ms r 1 0 L.length ∧ σ r = some (.cells (L.map boolv)) ∧ L ≠ []
theorem RT2.dv {σb σ : AHeap} {v : AVal} {L : List Bool} {E F G : List HE} (h : RT2 v L E) (H : Hp σb (F ++ (E ++ G)) σ) : TOk σ v L := by
  cases h with
  | nil => exact .inl ⟨rfl, rfl⟩
  | row r xs hx => exact .inr ⟨r, rfl, H.ok (.o r (.cells (L.map boolv))) (by simp), hx⟩
theorem RT2.isCell {v : AVal} {L : List Bool} {E : List HE} (h : RT2 v L E) : v.isCell = true := by cases h <;> rfl
theorem TOk.isCell {σ : AHeap} {v : AVal} {L : List Bool} (h : TOk σ v L) : v.isCell = true := by
  rcases h with ⟨rfl, _⟩ | ⟨r, rfl, _⟩ <;> rfl
theorem truths_get {L : List Bool} {i : Nat} (h : i < L.length) : (L.map boolv)[0 + ((i : Nat) : Int).toNat * 1]? = some (boolv (bitT L i)) := by
  rw [Int.toNat_natCast, Nat.mul_one, Nat.zero_add, List.getElem?_map, List.getElem?_eq_getElem h, bitT_get h]; rfl
theorem truth_snoc (xs : List Bool) (b : Bool) : xs.map boolv ++ [boolv b].flatMap AVal.cells = (xs ++ [b]).map boolv := by rw [List.map_append]; rfl
theorem truths_ok (l : List Bool) : (l.map boolv).all (okElem 1) = true := by
  rw [List.all_eq_true]; intro x hx; obtain ⟨b, _, rfl⟩ := List.mem_map.1 hx; rfl
section
variable {σb : AHeap}
/-- A row of truths, one more. -/
theorem rt_app {v : AVal} {xs : List Bool} {E G : List HE} {τ : AHeap} (h : RT2 v xs E) (H : Hp σb (E ++ G) τ) (hl : xs.length ≤ 1000000000) (b : Bool) {K : AVal → AHeap → Prop}
    (hK : ∀ v' E' τ', RT2 v' (xs ++ [b]) E' → Hp σb (E' ++ G) τ' → K v' τ') :
    (∀ s t, v = .slice 1 s t → AAppNew τ 1 1 s t [boolv b] K) ∧ (∀ r ln, v = .ms r 1 0 ln → AAppM τ r 1 0 ln 1 [boolv b] K) := by
  cases h with
  | nil =>
    refine ⟨fun s t e => ?_, fun r ln e => (by cases e)⟩
    cases e
    refine happnew H (by simp) (by simp) rfl fun r τ' H' => hK _ _ τ' (.row r [b] (by simp)) H'
  | row r _ hx =>
    refine ⟨fun s t e => (by cases e), fun r' ln e => ?_⟩
    cases e
    refine happm H (k := 0) rfl (by simp) (by simp only [List.length_singleton]; omega) rfl fun r2 τ' H' => ?_
    rw [truth_snoc] at H'
    have := hK _ _ τ' (.row r2 (xs ++ [b]) (by simp)) H'
    rw [List.length_append] at this
    exact this
end
/-- A row of spans that is stored into, or none yet. -/
abbrev spC (l : List Sp) : List AVal := (l.map spV).flatMap AVal.cells
inductive RS2 : AVal → List Sp → List HE → Prop
  | nil : RS2 (.slice 2 [] .full) [] []
  | row (r : Nat) (l : List Sp) : l ≠ [] → RS2 (.ms r 2 0 l.length) l [.o r (.cells (spC l))]
theorem spC_len (l : List Sp) : (spC l).length = l.length * 2 := by
  induction l with
  | nil => rfl
  | cons x l ih =>
    show (AVal.cells (spV x) ++ spC l).length = _
    rw [List.length_append, ih, List.length_cons]; show 2 + _ = _; omega
theorem spC_append (a b : List Sp) : spC (a ++ b) = spC a ++ spC b := by unfold spC; rw [List.map_append, List.flatMap_append]
theorem spC_get {l : List Sp} {i : Nat} (h : i < l.length) : (spC l)[i * 2]? = some (i64v l[i].1) ∧ (spC l)[i * 2 + 1]? = some (i64v l[i].2) := by
  induction l generalizing i with
  | nil => simp at h
  | cons x l ih =>
    have e : spC (x :: l) = i64v x.1 :: i64v x.2 :: spC l := rfl
    rw [e]
    cases i with
    | zero => exact ⟨rfl, rfl⟩
    | succ i =>
      have := ih (i := i) (by simpa using h)
      rw [show (i + 1) * 2 = i * 2 + 2 by omega]
      simpa using this
theorem spC_last (r : List Sp) (z : Sp) (n : Int) : splice (spC (r ++ [z])) (r.length * 2 + 1) [i64v n] = spC (r ++ [(z.1, n)]) := by
  rw [spC_append, spC_append, ← spC_len r]
  unfold splice
  have e1 : (spC r ++ spC [z]).take ((spC r).length + 1) = spC r ++ [i64v z.1] := by
    rw [List.take_append, List.take_of_length_le (by omega), Nat.add_sub_cancel_left]; rfl
  have e2 : (spC r ++ spC [z]).drop ((spC r).length + 1 + [i64v n].length) = [] := by
    refine List.drop_eq_nil_of_le ?_
    rw [List.length_append]; exact Nat.le_refl _
  rw [e1, e2, List.append_nil, List.append_assoc]; rfl
end Go.Proofs.YtgbpjbpdpgbngaaGreat
/-
  The document's sets of places: what their functions tell.
-/
namespace Go.Proofs.YtgbpjbpdpgbngaaGreat
open Go Go.Am

theorem cnt_ext {g : Nat → Bool} {m : Nat} : ∀ d : Nat, (∀ j, m ≤ j → j < m + d → g j = false) → (List.range (m + d)).countP g = (List.range m).countP g
  | 0, _ => rfl
  | d + 1, h => by
    rw [show m + (d + 1) = (m + d) + 1 by omega, List.range_succ, List.countP_append, cnt_ext d fun j a b => h j a (by omega), List.countP_cons, h (m + d) (by omega) (by omega)]; rfl
theorem cnt_same {g : Nat → Bool} {m n : Nat} (h : ∀ j, min m n ≤ j → j < max m n → g j = false) : (List.range m).countP g = (List.range n).countP g := by
  rcases Nat.le_total m n with q | q
  · have := cnt_ext (g := g) (m := m) (n - m) fun j a b => h j (by omega) (by omega)
    rw [show m + (n - m) = n by omega] at this; exact this.symm
  · have := cnt_ext (g := g) (m := n) (m - n) fun j a b => h j (by omega) (by omega)
    rw [show n + (m - n) = m by omega] at this; exact this
def cntG (L : List Bool) (a : Int) (j : Nat) : Bool := decide (a ≤ (j : Int)) && bitT L j
def cntT (L : List Bool) (x : Sp) : Nat := (List.range x.2.toNat).countP (cntG L x.1)
section
variable {σ : AHeap} {v : AVal} {L : List Bool}
set_option maxRecDepth 20000 in
theorem rCount03 (hd : TOk σ v L) (x : Sp) (hL : L.length ≤ 100000) (h0 : 0 ≤ x.1) (h1 : x.1 ≤ 100000) (h2 : x.2 ≤ 100000) : ACalls Tryz.prog i_bowlineref03_Set_Count [.agg [v], spV x] σ fun w σ' => w = i64v (cntT L x) ∧ σ' = σ := by
  obtain ⟨a, b⟩ := x
  dsimp only at h0 h1 h2
  obtain ⟨a, rfl⟩ := Int.eq_ofNat_of_zero_le h0
  have hvc := hd.isCell
  refine k_bowlineref03_Set_Count rfl ?_
  have H := Hp.nil σ
  (refine wX ?_)
  refine hnew H (by simp [AVal.cells, hvc]) ?_
  clear H
  intro is τ H
  replace H : Hp σ [.o is (.cells [v])] τ := H
  (refine wX ?_)
  refine hnew H rfl ?_
  clear H
  intro ix τ H
  (refine wX ?_)
  (repeat (((apply zL H; (· repeat first | exact .h | apply AtK.t); (· rfl))); (refine wX ?_)))
  replace H : Hp σ [.o ix (.cells [i64v a, i64v b]), .o is (.cells [v])] τ := H
  refine aloop (α := Nat) (fun i => [(s6, i64v i), (s5, i64v (((List.range i).countP (cntG L a) : Nat) : Int))]) (fun _ => τ) (fun i => a ≤ i ∧ i ≤ 100000 ∧ (i = a ∨ (i : Int) ≤ b)) (fun i => 100000 - i) a ⟨Nat.le_refl _, by omega, .inl rfl⟩ (Sub.refl _) ?_ ?_
  · rw [show (List.range a).countP (cntG L a) = 0 from (cnt_same (n := 0) fun j q1 q2 => by unfold cntG; rw [decide_eq_false (by omega)]; rfl).trans rfl]
    (refine wX ?_)
    exact elX
  rintro i ⟨hi, hi2, hi3⟩
  have hcl := List.countP_le_length (p := cntG L a) (l := List.range i)
  rw [List.length_range] at hcl
  have hcs : (List.range (i + 1)).countP (cntG L a) = (List.range i).countP (cntG L a) + if bitT L i = true then 1 else 0 := by
    rw [List.range_succ, List.countP_append, List.countP_cons, List.countP_nil]; unfold cntG; rw [decide_eq_true (show (a : Int) ≤ (i : Int) by omega)]; simp
  have hend : ¬ ((i : Int) < b ∧ i < L.length) → ((List.range i).countP (cntG L a)) = cntT L (a, b) := fun h => by
    unfold cntT
    refine cnt_same fun j q1 q2 => ?_
    unfold cntG
    dsimp only at q1 q2
    by_cases q3 : i < L.length
    · have q5 : b ≤ i := by omega
      rw [decide_eq_false (by omega)]; rfl
    · by_cases q4 : (j : Int) < i
      · rw [decide_eq_false (by omega)]; rfl
      · rw [bitT_no (by omega), Bool.and_false]
  generalize hc : ((List.range i).countP (cntG L a)) = c at *
  (refine wX ?_)
  (repeat (((apply zL H; (· repeat first | exact .h | apply AtK.t); (· rfl))); (refine wX ?_)))
  by_cases hb : (i : Int) < b
  · rcases hd with ⟨rfl, rfl⟩ | ⟨r, rfl, b1, hne⟩
    · (repeat ((first | refine zY (by omega) ?_ | (apply zL H; (· repeat first | exact .h | apply AtK.t); (· rfl))); (refine wX ?_)))
      rw [show (([] : List AVal).length : Int) = 0 from rfl]
      (refine wX ?_)
      (repeat ((refine zN (by omega) ?_); (refine wX ?_)))
      exact aret (VLe.refl _) H.sub ⟨by rw [hend (by simp)], rfl⟩
    · (repeat ((first | refine zY (by omega) ?_ | (apply zL H; (· repeat first | exact .h | apply AtK.t); (· rfl))); (refine wX ?_)))
      by_cases h : i < L.length
      · (repeat ((first | refine zY (by omega) ?_ | refine zX (by omega) (by omega) ?_ | (apply zL H; (· repeat first | exact .h | apply AtK.t); (· rfl))); (refine wX ?_)))
        refine zB H b1 (truths_get h) ?_
        cases hbt : bitT L i
        · rw [hbt] at hcs
          (refine wX ?_)
          (repeat ((refine zI (by omega) ?_); (refine wX ?_)))
          refine ⟨i + 1, ⟨by omega, by omega, .inr (by omega)⟩, by omega, Sub.refl _, ?_⟩
          rw [hcs]
          (refine wX ?_)
          exact elX
        · rw [hbt] at hcs
          (refine wX ?_)
          (repeat ((refine zI (by omega) ?_); (refine wX ?_)))
          refine ⟨i + 1, ⟨by omega, by omega, .inr (by omega)⟩, by omega, Sub.refl _, ?_⟩
          rw [hcs]
          (refine wX ?_)
          exact elX
      · (repeat ((refine zN (by omega) ?_); (refine wX ?_)))
        exact aret (VLe.refl _) H.sub ⟨by rw [hend (fun q => h q.2)], rfl⟩
  · (repeat ((refine zN (by omega) ?_); (refine wX ?_)))
    exact aret (VLe.refl _) H.sub ⟨by rw [hend (fun q => hb q.1)], rfl⟩
theorem RS2.row' (r : Nat) (l : List Sp) {n : Nat} (h : l ≠ []) (e : l.length = n) : RS2 (.ms r 2 0 n) l [.o r (.cells (spC l))] := by subst e; exact .row r l h
theorem spC_snoc (R : List Sp) (a b : Int) : spC R ++ [AVal.agg [i64v a, i64v b]].flatMap AVal.cells = spC (R ++ [(a, b)]) := by rw [spC_append]; rfl
def runT (L : List Bool) (is : Bool) (to : Nat) : List Sp := runsL (fun i => bitT L i == is) to
theorem runsL_len (f : Nat → Bool) : ∀ n, (runsL f n).length ≤ n
  | 0 => Nat.le_refl _
  | n + 1 => by
    have := runsL_len f n
    unfold runsL
    split
    · rcases snoc_cases (runsL f n) with h | ⟨r, z, h⟩
      · rw [h]; exact Nat.succ_le_succ (Nat.zero_le _)
      · rw [h] at this ⊢
        rw [addEnd_snoc]
        rw [List.length_append] at this
        split <;> simp at this ⊢ <;> omega
    · omega
set_option maxRecDepth 20000 in
set_option maxHeartbeats 4000000 in
theorem rRuns03 (hd : TOk σ v L) (is : Bool) (to : Nat) (hL : L.length ≤ 100000) (ht : to ≤ 65536) : ACalls Tryz.prog i_bowlineref03_Set_runs [.agg [v], boolv is, i64v to] σ fun w σ' => ∃ E, RS2 w (runT L is to) E ∧ Hp σ E σ' := by
  have hvc := hd.isCell
  refine km_bowlineref03_Set_runs rfl ?_
  have H := Hp.nil σ
  (refine wX ?_)
  refine hnew H (by simp [AVal.cells, hvc]) ?_
  clear H
  intro ix τ H
  replace H : Hp σ [.o ix (.cells [v])] τ := H
  (refine wX ?_)
  skip
  unfold runT
  refine aloop (α := Nat × AVal × List HE × AHeap) (fun y => [(s8, i64v y.1), (s7, y.2.1)]) (fun y => y.2.2.2) (fun y => y.1 ≤ to ∧ RS2 y.2.1 (runsL (fun i => bitT L i == is) y.1) y.2.2.1 ∧ Hp σ (y.2.2.1 ++ [.o ix (.cells [v])]) y.2.2.2) (fun y => to - y.1)
    (0, .slice 2 [] .full, [], τ) ⟨Nat.zero_le _, .nil, H⟩ (Sub.refl _) ?_ ?_
  · (refine wX ?_)
    exact elX
  clear H
  rintro ⟨i, w, E, τ⟩ ⟨hi, hw, H⟩
  dsimp only at hi hw H ⊢
  (refine wX ?_)
  by_cases h : i < to
  · have hlen := runsL_len (fun i => bitT L i == is) i
    have hstep : runsL (fun i => bitT L i == is) (i + 1) = if (bitT L i == is) = true then addEnd (runsL (fun i => bitT L i == is) i) i else runsL (fun i => bitT L i == is) i := rfl
    obtain ⟨bt, hbt⟩ : ∃ bt, bitT L i = bt := ⟨_, rfl⟩
    rw [hbt] at hstep
    generalize runsL (fun i => bitT L i == is) i = R at *
    (repeat ((refine zY (by omega) ?_); (refine wX ?_)))
    have hix : τ ix = some (.cells [v]) := H.ok (.o ix (.cells [v])) (by simp)
    refine aload hix rfl ?_
    rcases hd with ⟨rfl, hLn⟩ | ⟨r0, rfl, b1, hne⟩
    rotate_left
    by_cases hl : i < L.length
    rotate_left
    · have hbf : bt = false := by rw [← hbt]; exact bitT_no (by omega)
      subst hbf
      (refine wX ?_)
      (repeat ((refine zN (by omega) ?_); (refine wX ?_)))
      cases is
      · skip
        rw [if_pos (by decide)] at hstep
        (refine wX ?_)
        cases hw with
        | nil =>
          (refine wX ?_)
          (repeat ((refine zI (by omega) ?_); (refine wX ?_)))
          rw [show (([] : List AVal).length : Int) = 0 from rfl]
          (refine wX ?_)
          skip
          refine happnew H (List.cons_ne_nil _ _) (show 1 * 16 ≤ 140737488355328 by decide) rfl fun r2 τ2 H2 => ?_
          clear H
          have H := H2
          clear H2
          (refine wX ?_)
          (repeat ((refine zI (by omega) ?_); (refine wX ?_)))
          refine ⟨(i + 1, .ms r2 2 0 1, [.o r2 (.cells (spC [((i : Int), (i : Int) + 1)]))], τ2), ⟨h, by dsimp only; rw [hstep]; exact .row r2 [((i : Int), (i : Int) + 1)] (by simp), H⟩, by dsimp only; omega, Sub.refl _, ?_⟩
          (refine wX ?_)
          exact elX
        | row r _ hne2 =>
          rcases snoc_cases R with hR | ⟨R0, z, rfl⟩
          · exact (hne2 hR).elim
          rw [List.length_append, List.length_singleton] at hlen
          rw [addEnd_snoc] at hstep
          have hg := (spC_get (l := R0 ++ [z]) (i := R0.length) (by simp)).2
          rw [show (R0 ++ [z])[R0.length]'(by simp) = z by simp] at hg
          rw [show (R0 ++ [z]).length = R0.length + 1 by simp] at *
          (repeat ((first | refine zI (by omega) ?_ | refine zY (by omega) ?_ | refine zX (by omega) (by omega) ?_); (refine wX ?_)))
          rw [show 0 + (((R0.length + 1 : Nat) : Int) - 1).toNat * 2 + 1 = R0.length * 2 + 1 by omega]
          refine aload (H.get (k := 0) rfl) hg ?_
          (refine wX ?_)
          by_cases hz : z.2 = (i : Int)
          · rw [if_pos hz] at hstep
            (repeat ((first | refine zI (by omega) ?_ | refine zY (by omega) ?_ | refine zX (by omega) (by omega) ?_); (refine wX ?_)))
            rw [show 0 + (((R0.length + 1 : Nat) : Int) - 1).toNat * 2 + 1 = R0.length * 2 + 1 by omega]
            refine astore (H.get (k := 0) rfl) (by rw [spC_len, List.length_append]; show R0.length * 2 + 1 + 1 ≤ (R0.length + 1) * 2; omega) rfl (spC_last R0 z _) ?_
            replace H := H.set (k := 0) rfl (.cells (spC (R0 ++ [(z.1, (i : Int) + 1)])))
            generalize upd τ r _ = υ at *
            (refine wX ?_)
            (repeat ((refine zI (by omega) ?_); (refine wX ?_)))
            refine ⟨(i + 1, .ms r 2 0 (R0.length + 1), [.o r (.cells (spC (R0 ++ [(z.1, (i : Int) + 1)])))], υ), ⟨h, by dsimp only; rw [hstep]; exact RS2.row' r _ (by simp) (by simp), H⟩, by dsimp only; omega, Sub.refl _, ?_⟩
            (refine wX ?_)
            exact elX
          · rw [if_neg hz] at hstep
            (repeat ((first | refine zI (by omega) ?_ | refine zN (by omega) ?_); (refine wX ?_)))
            refine happm H (k := 0) rfl (by rw [spC_len, List.length_append]; simp) (by simp only [List.length_singleton]; omega) rfl fun r2 τ2 H2 => ?_
            clear H
            have H := H2
            rw [spC_snoc (R0 ++ [z]) i ((i : Int) + 1)] at H
            clear H2
            (refine wX ?_)
            (repeat ((refine zI (by omega) ?_); (refine wX ?_)))
            refine ⟨(i + 1, .ms r2 2 0 (R0.length + 1 + 1), [.o r2 (.cells (spC ((R0 ++ [z]) ++ [((i : Int), (i : Int) + 1)])))], τ2), ⟨h, by dsimp only; rw [hstep]; exact RS2.row' r2 _ (by simp) (by simp), H⟩, by dsimp only; omega, Sub.refl _, ?_⟩
            (refine wX ?_)
            exact elX
      · skip
        (refine wX ?_)
        (repeat ((refine zI (by omega) ?_); (refine wX ?_)))
        refine ⟨(i + 1, w, E, τ), ⟨h, by dsimp only; rw [hstep, if_neg (by decide)]; exact hw, H⟩, by dsimp only; omega, Sub.refl _, ?_⟩
        (refine wX ?_)
        exact elX
    · have hbf : bt = false := by rw [← hbt, hLn]; rfl
      subst hbf
      (refine wX ?_)
      skip
      rw [show (([] : List AVal).length : Int) = 0 from rfl]
      (refine wX ?_)
      (repeat ((refine zN (by omega) ?_); (refine wX ?_)))
      cases is
      · skip
        rw [if_pos (by decide)] at hstep
        (refine wX ?_)
        cases hw with
        | nil =>
          (refine wX ?_)
          (repeat ((refine zI (by omega) ?_); (refine wX ?_)))
          rw [show (([] : List AVal).length : Int) = 0 from rfl]
          (refine wX ?_)
          skip
          refine happnew H (List.cons_ne_nil _ _) (show 1 * 16 ≤ 140737488355328 by decide) rfl fun r2 τ2 H2 => ?_
          clear H
          have H := H2
          clear H2
          (refine wX ?_)
          (repeat ((refine zI (by omega) ?_); (refine wX ?_)))
          refine ⟨(i + 1, .ms r2 2 0 1, [.o r2 (.cells (spC [((i : Int), (i : Int) + 1)]))], τ2), ⟨h, by dsimp only; rw [hstep]; exact .row r2 [((i : Int), (i : Int) + 1)] (by simp), H⟩, by dsimp only; omega, Sub.refl _, ?_⟩
          (refine wX ?_)
          exact elX
        | row r _ hne2 =>
          rcases snoc_cases R with hR | ⟨R0, z, rfl⟩
          · exact (hne2 hR).elim
          rw [List.length_append, List.length_singleton] at hlen
          rw [addEnd_snoc] at hstep
          have hg := (spC_get (l := R0 ++ [z]) (i := R0.length) (by simp)).2
          rw [show (R0 ++ [z])[R0.length]'(by simp) = z by simp] at hg
          rw [show (R0 ++ [z]).length = R0.length + 1 by simp] at *
          (repeat ((first | refine zI (by omega) ?_ | refine zY (by omega) ?_ | refine zX (by omega) (by omega) ?_); (refine wX ?_)))
          rw [show 0 + (((R0.length + 1 : Nat) : Int) - 1).toNat * 2 + 1 = R0.length * 2 + 1 by omega]
          refine aload (H.get (k := 0) rfl) hg ?_
          (refine wX ?_)
          by_cases hz : z.2 = (i : Int)
          · rw [if_pos hz] at hstep
            (repeat ((first | refine zI (by omega) ?_ | refine zY (by omega) ?_ | refine zX (by omega) (by omega) ?_); (refine wX ?_)))
            rw [show 0 + (((R0.length + 1 : Nat) : Int) - 1).toNat * 2 + 1 = R0.length * 2 + 1 by omega]
            refine astore (H.get (k := 0) rfl) (by rw [spC_len, List.length_append]; show R0.length * 2 + 1 + 1 ≤ (R0.length + 1) * 2; omega) rfl (spC_last R0 z _) ?_
            replace H := H.set (k := 0) rfl (.cells (spC (R0 ++ [(z.1, (i : Int) + 1)])))
            generalize upd τ r _ = υ at *
            (refine wX ?_)
            (repeat ((refine zI (by omega) ?_); (refine wX ?_)))
            refine ⟨(i + 1, .ms r 2 0 (R0.length + 1), [.o r (.cells (spC (R0 ++ [(z.1, (i : Int) + 1)])))], υ), ⟨h, by dsimp only; rw [hstep]; exact RS2.row' r _ (by simp) (by simp), H⟩, by dsimp only; omega, Sub.refl _, ?_⟩
            (refine wX ?_)
            exact elX
          · rw [if_neg hz] at hstep
            (repeat ((first | refine zI (by omega) ?_ | refine zN (by omega) ?_); (refine wX ?_)))
            refine happm H (k := 0) rfl (by rw [spC_len, List.length_append]; simp) (by simp only [List.length_singleton]; omega) rfl fun r2 τ2 H2 => ?_
            clear H
            have H := H2
            rw [spC_snoc (R0 ++ [z]) i ((i : Int) + 1)] at H
            clear H2
            (refine wX ?_)
            (repeat ((refine zI (by omega) ?_); (refine wX ?_)))
            refine ⟨(i + 1, .ms r2 2 0 (R0.length + 1 + 1), [.o r2 (.cells (spC ((R0 ++ [z]) ++ [((i : Int), (i : Int) + 1)])))], τ2), ⟨h, by dsimp only; rw [hstep]; exact RS2.row' r2 _ (by simp) (by simp), H⟩, by dsimp only; omega, Sub.refl _, ?_⟩
            (refine wX ?_)
            exact elX
      · skip
        (refine wX ?_)
        (repeat ((refine zI (by omega) ?_); (refine wX ?_)))
        refine ⟨(i + 1, w, E, τ), ⟨h, by dsimp only; rw [hstep, if_neg (by decide)]; exact hw, H⟩, by dsimp only; omega, Sub.refl _, ?_⟩
        (refine wX ?_)
        exact elX
    · (refine wX ?_)
      (repeat ((refine zY (by omega) ?_); (refine wX ?_)))
      refine aload hix rfl ?_
      (refine wX ?_)
      (repeat ((refine zX (by omega) (by omega) ?_); (refine wX ?_)))
      refine zB H b1 (truths_get hl) ?_
      rw [hbt]
      (refine wX ?_)
      cases bt
      · skip
        cases is
        · skip
          rw [if_pos (by decide)] at hstep
          (refine wX ?_)
          cases hw with
          | nil =>
            (refine wX ?_)
            (repeat ((refine zI (by omega) ?_); (refine wX ?_)))
            rw [show (([] : List AVal).length : Int) = 0 from rfl]
            (refine wX ?_)
            skip
            refine happnew H (List.cons_ne_nil _ _) (show 1 * 16 ≤ 140737488355328 by decide) rfl fun r2 τ2 H2 => ?_
            clear H
            have H := H2
            clear H2
            (refine wX ?_)
            (repeat ((refine zI (by omega) ?_); (refine wX ?_)))
            refine ⟨(i + 1, .ms r2 2 0 1, [.o r2 (.cells (spC [((i : Int), (i : Int) + 1)]))], τ2), ⟨h, by dsimp only; rw [hstep]; exact .row r2 [((i : Int), (i : Int) + 1)] (by simp), H⟩, by dsimp only; omega, Sub.refl _, ?_⟩
            (refine wX ?_)
            exact elX
          | row r _ hne2 =>
            rcases snoc_cases R with hR | ⟨R0, z, rfl⟩
            · exact (hne2 hR).elim
            rw [List.length_append, List.length_singleton] at hlen
            rw [addEnd_snoc] at hstep
            have hg := (spC_get (l := R0 ++ [z]) (i := R0.length) (by simp)).2
            rw [show (R0 ++ [z])[R0.length]'(by simp) = z by simp] at hg
            rw [show (R0 ++ [z]).length = R0.length + 1 by simp] at *
            (repeat ((first | refine zI (by omega) ?_ | refine zY (by omega) ?_ | refine zX (by omega) (by omega) ?_); (refine wX ?_)))
            rw [show 0 + (((R0.length + 1 : Nat) : Int) - 1).toNat * 2 + 1 = R0.length * 2 + 1 by omega]
            refine aload (H.get (k := 0) rfl) hg ?_
            (refine wX ?_)
            by_cases hz : z.2 = (i : Int)
            · rw [if_pos hz] at hstep
              (repeat ((first | refine zI (by omega) ?_ | refine zY (by omega) ?_ | refine zX (by omega) (by omega) ?_); (refine wX ?_)))
              rw [show 0 + (((R0.length + 1 : Nat) : Int) - 1).toNat * 2 + 1 = R0.length * 2 + 1 by omega]
              refine astore (H.get (k := 0) rfl) (by rw [spC_len, List.length_append]; show R0.length * 2 + 1 + 1 ≤ (R0.length + 1) * 2; omega) rfl (spC_last R0 z _) ?_
              replace H := H.set (k := 0) rfl (.cells (spC (R0 ++ [(z.1, (i : Int) + 1)])))
              generalize upd τ r _ = υ at *
              (refine wX ?_)
              (repeat ((refine zI (by omega) ?_); (refine wX ?_)))
              refine ⟨(i + 1, .ms r 2 0 (R0.length + 1), [.o r (.cells (spC (R0 ++ [(z.1, (i : Int) + 1)])))], υ), ⟨h, by dsimp only; rw [hstep]; exact RS2.row' r _ (by simp) (by simp), H⟩, by dsimp only; omega, Sub.refl _, ?_⟩
              (refine wX ?_)
              exact elX
            · rw [if_neg hz] at hstep
              (repeat ((first | refine zI (by omega) ?_ | refine zN (by omega) ?_); (refine wX ?_)))
              refine happm H (k := 0) rfl (by rw [spC_len, List.length_append]; simp) (by simp only [List.length_singleton]; omega) rfl fun r2 τ2 H2 => ?_
              clear H
              have H := H2
              rw [spC_snoc (R0 ++ [z]) i ((i : Int) + 1)] at H
              clear H2
              (refine wX ?_)
              (repeat ((refine zI (by omega) ?_); (refine wX ?_)))
              refine ⟨(i + 1, .ms r2 2 0 (R0.length + 1 + 1), [.o r2 (.cells (spC ((R0 ++ [z]) ++ [((i : Int), (i : Int) + 1)])))], τ2), ⟨h, by dsimp only; rw [hstep]; exact RS2.row' r2 _ (by simp) (by simp), H⟩, by dsimp only; omega, Sub.refl _, ?_⟩
              (refine wX ?_)
              exact elX
        · skip
          (refine wX ?_)
          (repeat ((refine zI (by omega) ?_); (refine wX ?_)))
          refine ⟨(i + 1, w, E, τ), ⟨h, by dsimp only; rw [hstep, if_neg (by decide)]; exact hw, H⟩, by dsimp only; omega, Sub.refl _, ?_⟩
          (refine wX ?_)
          exact elX
      · skip
        cases is
        · skip
          (refine wX ?_)
          (repeat ((refine zI (by omega) ?_); (refine wX ?_)))
          refine ⟨(i + 1, w, E, τ), ⟨h, by dsimp only; rw [hstep, if_neg (by decide)]; exact hw, H⟩, by dsimp only; omega, Sub.refl _, ?_⟩
          (refine wX ?_)
          exact elX
        · skip
          rw [if_pos (by decide)] at hstep
          (refine wX ?_)
          cases hw with
          | nil =>
            (refine wX ?_)
            (repeat ((refine zI (by omega) ?_); (refine wX ?_)))
            rw [show (([] : List AVal).length : Int) = 0 from rfl]
            (refine wX ?_)
            skip
            refine happnew H (List.cons_ne_nil _ _) (show 1 * 16 ≤ 140737488355328 by decide) rfl fun r2 τ2 H2 => ?_
            clear H
            have H := H2
            clear H2
            (refine wX ?_)
            (repeat ((refine zI (by omega) ?_); (refine wX ?_)))
            refine ⟨(i + 1, .ms r2 2 0 1, [.o r2 (.cells (spC [((i : Int), (i : Int) + 1)]))], τ2), ⟨h, by dsimp only; rw [hstep]; exact .row r2 [((i : Int), (i : Int) + 1)] (by simp), H⟩, by dsimp only; omega, Sub.refl _, ?_⟩
            (refine wX ?_)
            exact elX
          | row r _ hne2 =>
            rcases snoc_cases R with hR | ⟨R0, z, rfl⟩
            · exact (hne2 hR).elim
            rw [List.length_append, List.length_singleton] at hlen
            rw [addEnd_snoc] at hstep
            have hg := (spC_get (l := R0 ++ [z]) (i := R0.length) (by simp)).2
            rw [show (R0 ++ [z])[R0.length]'(by simp) = z by simp] at hg
            rw [show (R0 ++ [z]).length = R0.length + 1 by simp] at *
            (repeat ((first | refine zI (by omega) ?_ | refine zY (by omega) ?_ | refine zX (by omega) (by omega) ?_); (refine wX ?_)))
            rw [show 0 + (((R0.length + 1 : Nat) : Int) - 1).toNat * 2 + 1 = R0.length * 2 + 1 by omega]
            refine aload (H.get (k := 0) rfl) hg ?_
            (refine wX ?_)
            by_cases hz : z.2 = (i : Int)
            · rw [if_pos hz] at hstep
              (repeat ((first | refine zI (by omega) ?_ | refine zY (by omega) ?_ | refine zX (by omega) (by omega) ?_); (refine wX ?_)))
              rw [show 0 + (((R0.length + 1 : Nat) : Int) - 1).toNat * 2 + 1 = R0.length * 2 + 1 by omega]
              refine astore (H.get (k := 0) rfl) (by rw [spC_len, List.length_append]; show R0.length * 2 + 1 + 1 ≤ (R0.length + 1) * 2; omega) rfl (spC_last R0 z _) ?_
              replace H := H.set (k := 0) rfl (.cells (spC (R0 ++ [(z.1, (i : Int) + 1)])))
              generalize upd τ r _ = υ at *
              (refine wX ?_)
              (repeat ((refine zI (by omega) ?_); (refine wX ?_)))
              refine ⟨(i + 1, .ms r 2 0 (R0.length + 1), [.o r (.cells (spC (R0 ++ [(z.1, (i : Int) + 1)])))], υ), ⟨h, by dsimp only; rw [hstep]; exact RS2.row' r _ (by simp) (by simp), H⟩, by dsimp only; omega, Sub.refl _, ?_⟩
              (refine wX ?_)
              exact elX
            · rw [if_neg hz] at hstep
              (repeat ((first | refine zI (by omega) ?_ | refine zN (by omega) ?_); (refine wX ?_)))
              refine happm H (k := 0) rfl (by rw [spC_len, List.length_append]; simp) (by simp only [List.length_singleton]; omega) rfl fun r2 τ2 H2 => ?_
              clear H
              have H := H2
              rw [spC_snoc (R0 ++ [z]) i ((i : Int) + 1)] at H
              clear H2
              (refine wX ?_)
              (repeat ((refine zI (by omega) ?_); (refine wX ?_)))
              refine ⟨(i + 1, .ms r2 2 0 (R0.length + 1 + 1), [.o r2 (.cells (spC ((R0 ++ [z]) ++ [((i : Int), (i : Int) + 1)])))], τ2), ⟨h, by dsimp only; rw [hstep]; exact RS2.row' r2 _ (by simp) (by simp), H⟩, by dsimp only; omega, Sub.refl _, ?_⟩
              (refine wX ?_)
              exact elX
  · have hit : i = to := by omega
    subst hit
    (repeat ((refine zN (by omega) ?_); (refine wX ?_)))
    exact aret (VLe.refl _) (Sub.refl _) ⟨E, hw, H.left⟩
end
end Go.Proofs.YtgbpjbpdpgbngaaGreat
/-
  The document's sets of places: what their functions change.
-/
namespace Go.Proofs.YtgbpjbpdpgbngaaGreat
open Go Go.Am

/-- A span's places changed. -/
structure Withs (L L' : List Bool) (x : Sp) (is : Bool) : Prop where
  len : L'.length = max L.length x.2.toNat
  bit : ∀ i : Nat, bitT L' i = if x.1 ≤ (i : Int) ∧ (i : Int) < x.2 then is else bitT L i
section
variable {σ : AHeap} {v : AVal} {L : List Bool}
end
theorem rSpans03 {σ : AHeap} {v : AVal} {L : List Bool} (hd : TOk σ v L) (hL : L.length ≤ 65536) : ACalls Tryz.prog i_bowlineref03_Set_Spans [.agg [v]] σ fun w σ' => ∃ E, RS2 w (runT L true L.length) E ∧ Hp σ E σ' := by
  have hvc := hd.isCell
  refine k_bowlineref03_Set_Spans rfl ?_
  have H := Hp.nil σ
  (refine wX ?_)
  refine hnew H (by simp [AVal.cells, hvc]) ?_
  clear H
  intro js τ H
  replace H : Hp σ [.o js (.cells [v])] τ := H
  (refine wX ?_)
  (repeat ((first | (apply zL H; (· repeat first | exact .h | apply AtK.t); (· rfl)) | (apply zA H; (· repeat first | exact .h | apply AtK.t))); (refine wX ?_)))
  have hd2 : TOk τ v L := by
    rcases hd with h | ⟨r, h1, h2, h3⟩
    · exact .inl h
    · exact .inr ⟨r, h1, H.ext _ _ rfl h2, h3⟩
  have hlen : ∀ {K : AVal → AHeap → Prop} {env : Env} {d : Pth}, True := trivial
  clear hlen
  have hcall := rRuns03 hd2 true L.length (by omega) hL
  rcases hd with ⟨rfl, rfl⟩ | ⟨r, rfl, b1, hne⟩
  · (refine wX ?_)
    skip
    refine acall hcall ?_
    rintro _ υ ⟨E, hE, N⟩
    refine ⟨?_, N.ext⟩
    (refine wX ?_)
    exact aret (VLe.refl _) (Sub.refl _) ⟨E, hE, (H.join N).left⟩
  · (refine wX ?_)
    skip
    refine acall hcall ?_
    rintro _ υ ⟨E, hE, N⟩
    refine ⟨?_, N.ext⟩
    (refine wX ?_)
    exact aret (VLe.refl _) (Sub.refl _) ⟨E, hE, (H.join N).left⟩
theorem rGaps03 {σ : AHeap} {v : AVal} {L : List Bool} (hd : TOk σ v L) (hL : L.length ≤ 65536) (to : Int) : ACalls Tryz.prog i_bowlineref03_Set_Gaps [.agg [v], i64v to] σ fun w σ' => ∃ E, RS2 w (if 1 ≤ to ∧ to ≤ 65536 then runT L false to.toNat else []) E ∧ Hp σ E σ' := by
  have hvc := hd.isCell
  refine k_bowlineref03_Set_Gaps rfl ?_
  have H := Hp.nil σ
  (refine wX ?_)
  refine hnew H (by simp [AVal.cells, hvc]) ?_
  clear H
  intro js τ H
  replace H : Hp σ [.o js (.cells [v])] τ := H
  (refine wX ?_)
  by_cases h1 : to < 1
  · rw [if_neg (by omega)]
    (repeat ((refine zY (by omega) ?_); (refine wX ?_)))
    exact aret (VLe.refl _) H.sub ⟨[], .nil, Hp.nil σ⟩
  by_cases h2 : to > 65536
  · rw [if_neg (by omega)]
    (repeat ((first | refine zY (by omega) ?_ | refine zN (by omega) ?_); (refine wX ?_)))
    exact aret (VLe.refl _) H.sub ⟨[], .nil, Hp.nil σ⟩
  rw [if_pos (by omega)]
  obtain ⟨n, rfl⟩ := Int.eq_ofNat_of_zero_le (show 0 ≤ to by omega)
  (repeat ((first | refine zN (by omega) ?_ | (apply zA H; (· repeat first | exact .h | apply AtK.t))); (refine wX ?_)))
  have hd2 : TOk τ v L := by
    rcases hd with h | ⟨r, h1, h2, h3⟩
    · exact .inl h
    · exact .inr ⟨r, h1, H.ext _ _ rfl h2, h3⟩
  refine acall (rRuns03 hd2 false n (by omega) (by omega)) ?_
  rintro _ υ ⟨E, hE, N⟩
  refine ⟨?_, N.ext⟩
  (refine wX ?_)
  exact aret (VLe.refl _) (Sub.refl _) ⟨E, hE, (H.join N).left⟩
end Go.Proofs.YtgbpjbpdpgbngaaGreat
/-
  The statements of spans: what lives; in whatever order spans are put in.
-/
namespace Go.Proofs.YtgbpjbpdpgbngaaGreat
open Go Go.Am

end Go.Proofs.YtgbpjbpdpgbngaaGreat
/-
  The statements of spans: what was put in is there; what was taken out is not.
-/
namespace Go.Proofs.YtgbpjbpdpgbngaaGreat
open Go Go.Am

theorem countP_split {f g : Nat → Bool} : ∀ {l : List Nat}, (∀ i ∈ l, g i = true → f i = true) → l.countP f = l.countP (fun i => f i && !g i) + l.countP g
  | [], _ => rfl
  | x :: l, h => by
    have ih := countP_split (f := f) (g := g) (l := l) fun i hi => h i (List.mem_cons_of_mem _ hi)
    have hx := h x (List.mem_cons_self ..)
    rw [List.countP_cons, List.countP_cons, List.countP_cons, ih]
    cases hg : g x <;> cases hf : f x
    · simp
    · simp; omega
    · rw [hg, hf] at hx; exact absurd (hx rfl) (by decide)
    · simp; omega
theorem countP_mid {a b : Nat} (h : a ≤ b) : ∀ {n : Nat}, (List.range n).countP (fun i => decide (a ≤ i ∧ i < b)) = min n b - min n a
  | 0 => by simp
  | n + 1 => by
    rw [List.range_succ, List.countP_append, countP_mid h, List.countP_cons, List.countP_nil]
    by_cases c : a ≤ n ∧ n < b
    · rw [decide_eq_true c]; simp; omega
    · rw [decide_eq_false c]; simp; omega
theorem SOk.bound {l : List Sp} (h : SOk l) {p : Int} (k : hasP l p) : 0 ≤ p ∧ p < 65536 := by
  obtain ⟨y, hy, q⟩ := k
  have := h.mem y hy
  omega
end Go.Proofs.YtgbpjbpdpgbngaaGreat
/-
  The statements of spans: what is there and the gaps are all places, each once.
-/
namespace Go.Proofs.YtgbpjbpdpgbngaaGreat
open Go Go.Am

def inL (to : Int) : List Sp → Int
  | [] => 0
  | y :: l => (if y.1 < to then min y.2 to - y.1 else 0) + inL to l
theorem gaps_all {to : Int} : ∀ {l : List Sp} {k : Int}, Nrm (k - 1) l → cntL (gapsL to k l) + inL to l = if k < to then to - k else 0
  | [], k, _ => by
    unfold gapsL inL
    split
    · show (to - k + 0) + 0 = _; omega
    · rfl
  | y :: l, k, ⟨g1, g2, g3, g4⟩ => by
    have ih := gaps_all (to := to) (l := l) (k := y.2) (g4.weak (by omega))
    unfold gapsL inL
    split at ih <;> rename_i c1
    · by_cases c2 : y.1 > k ∧ k < to
      · rw [if_pos c2, if_pos (by omega), if_pos (by omega)]
        show (min y.1 to - k + cntL (gapsL to y.2 l)) + _ = _
        omega
      · rw [if_neg c2, if_pos (by omega), if_pos (by omega)]
        show cntL (gapsL to y.2 l) + _ = _
        omega
    · by_cases c2 : y.1 > k ∧ k < to
      · rw [if_pos c2, if_pos c2.2]
        show (min y.1 to - k + cntL (gapsL to y.2 l)) + _ = _
        split <;> omega
      · rw [if_neg c2]
        show cntL (gapsL to y.2 l) + _ = _
        split <;> split <;> omega
end Go.Proofs.YtgbpjbpdpgbngaaGreat
/-
  The statements of spans: what is there and the gaps, told by the statement.
-/
namespace Go.Proofs.YtgbpjbpdpgbngaaGreat
open Go Go.Am

def insV (to : Int) (l : List Sp) : Int := if 1 ≤ to ∧ to ≤ 65536 then inL to l else 0
theorem SOk.part {l : List Sp} (h : SOk l) (i : Nat) : SOk (l.take i) := ⟨Nrm.init (m := l.drop i) (by rw [List.take_append_drop]; exact h.n), by have := h.k; rw [List.length_take]; omega⟩
theorem SOk.gaps {l : List Sp} (h : SOk l) {to : Int} (ht : 1 ≤ to ∧ to ≤ 65536) : (gapsV to l).length ≤ 2049 ∧ Nrm (-1) (gapsV to l) ∧ (∀ y ∈ gapsV to l, spRight y = true ∧ y.2 ≤ to ∧ tchS y l = false) ∧ cntL (gapsV to l) + insV to l = to := by
  unfold gapsV insV
  rw [if_pos ht, if_pos ht]
  obtain ⟨h1, h2⟩ := gapsL_spec (to := to) ht.2 (k := 0) (l := l) h.n
  refine ⟨by have := gapsL_len (to := to) (l := l) (k := 0); have := h.k; omega, h1, fun y hy => ?_, ?_⟩
  · have q := h1.mem hy
    have q2 := ((h2 (y.2 - 1)).1 ⟨y, hy, by omega, by omega⟩).2.1
    refine ⟨spRight_iff.2 (by omega), by omega, ?_⟩
    rw [Bool.eq_false_iff]
    intro k
    obtain ⟨_, p, a, b, c⟩ := (tchS_iff h).1 k
    exact ((h2 p).1 ⟨y, hy, a, b⟩).2.2 c
  · rw [gaps_all h.n, if_pos (by omega)]; omega
end Go.Proofs.YtgbpjbpdpgbngaaGreat
/-
  The document's sets of places against sets of spans.
-/
namespace Go.Proofs.YtgbpjbpdpgbngaaGreat
open Go Go.Am

theorem Hp.dropmid {σb σ : AHeap} {A B C : List HE} (H : Hp σb (A ++ (B ++ C)) σ) : Hp σb (A ++ C) σ := by
  have h1 : Hp σb ((A ++ C) ++ B) σ := H.perm (by
    rw [List.append_assoc]
    exact List.Perm.append_left A List.perm_append_comm)
  exact h1.left
theorem Hp.right {σb τ : AHeap} {L M : List HE} (H : Hp σb (L ++ M) τ) : Hp σb M τ := (H.comm L M).left
theorem RT2.dvt {σb σ : AHeap} {v : AVal} {L : List Bool} {E F : List HE} (h : RT2 v L E) (H : Hp σb (F ++ E) σ) : TOk σ v L := h.dv (F := F) (G := []) (by rw [List.append_nil]; exact H)
theorem TOk.up {σ τ : AHeap} {v : AVal} {L : List Bool} (h : TOk σ v L) (e : Ext σ τ) : TOk τ v L := by
  rcases h with h | ⟨r, h1, h2, h3⟩
  · exact .inl h
  · exact .inr ⟨r, h1, e _ _ rfl h2, h3⟩
/-- What comes of a change. -/
inductive Chg (v : AVal) (L : List Bool) (x : Sp) (is : Bool) : Int → AVal → List Bool → List HE → Prop
  | arg : spRight x = false → Chg v L x is 1 v L []
  | full (M : List Bool) : spRight x = true → Withs L M x is → 2048 < (runT M true M.length).length → Chg v L x is 5 v L []
  | ok (M : List Bool) (v' : AVal) (E : List HE) : spRight x = true → Withs L M x is → (runT M true M.length).length ≤ 2048 → RT2 v' M E → Chg v L x is 0 v' M E
theorem RS2.len {w : AVal} {l : List Sp} {E : List HE} (h : RS2 w l E) : (∃ t, w = .slice 2 [] t ∧ l.length = 0) ∨ ∃ r, w = .ms r 2 0 l.length := by
  cases h with
  | nil => exact .inl ⟨_, rfl, rfl⟩
  | row r l hl => exact .inr ⟨r, rfl⟩
end Go.Proofs.YtgbpjbpdpgbngaaGreat
/-
  The statements of spans: a set tells what the document says.
-/
namespace Go.Proofs.YtgbpjbpdpgbngaaGreat
open Go Go.Am

structure Rel (l : List Sp) (L : List Bool) : Prop where
  len : L.length ≤ 65536
  has : ∀ p : Int, hasP l p ↔ 0 ≤ p ∧ bitT L p.toNat = true
theorem bitT_lt {L : List Bool} {i : Nat} (h : bitT L i = true) : i < L.length := by
  rcases Nat.lt_or_ge i L.length with q | q
  · exact q
  · rw [bitT_no q] at h; cases h
theorem rel_run {m : List Sp} {M : List Bool} (h : Nrm (-1) m) (k : Rel m M) : runT M true M.length = m := by
  refine runs_eq k.len h fun p => ?_
  rw [k.has p]
  constructor
  · rintro ⟨a, b⟩
    exact ⟨a, by have := bitT_lt b; omega, by rw [b]; rfl⟩
  · rintro ⟨a, b, c⟩
    exact ⟨a, by simpa using c⟩
theorem rel_gap {m : List Sp} {M : List Bool} (h : SOk m) (k : Rel m M) (to : Int) : gapsV to m = if 1 ≤ to ∧ to ≤ 65536 then runT M false to.toNat else [] := by
  unfold gapsV
  by_cases ht : 1 ≤ to ∧ to ≤ 65536
  · rw [if_pos ht, if_pos ht]
    obtain ⟨h1, h2⟩ := gapsL_spec (to := to) ht.2 (k := 0) (l := m) h.n
    refine (runs_eq (by omega) h1 fun p => ?_).symm
    rw [h2 p, k.has p]
    constructor
    · rintro ⟨a, b, c⟩
      refine ⟨a, by omega, ?_⟩
      cases hb : bitT M p.toNat
      · rfl
      · exact (c ⟨a, hb⟩).elim
    · rintro ⟨a, b, c⟩
      refine ⟨a, by omega, fun q => ?_⟩
      rw [q.2] at c; cases c
  · rw [if_neg ht, if_neg ht]
theorem rel_cnt {m : List Sp} {M : List Bool} (h : SOk m) (k : Rel m M) : ((cntT M (0, (M.length : Int)) : Nat) : Int) = cntL m := by
  rw [cnt_runs (f := bitT M) k.len h.n fun p => by
    rw [k.has p]
    exact ⟨fun ⟨a, b⟩ => ⟨a, by have := bitT_lt b; omega, b⟩, fun ⟨a, _, b⟩ => ⟨a, b⟩⟩]
  unfold cntT
  dsimp only
  rw [Int.toNat_natCast]
  congr 2
theorem rel_split {m : List Sp} {M : List Bool} {x : Sp} (hr : spRight x = true) : (x.2.toNat - x.1.toNat) = (List.range x.2.toNat).countP (fun i => decide (x.1.toNat ≤ i ∧ i < x.2.toNat) && !cntG M x.1 i) + cntT M x := by
  have hx := spRight_iff.1 hr
  have e := countP_split (f := fun i => decide (x.1.toNat ≤ i ∧ i < x.2.toNat)) (g := cntG M x.1) (l := List.range x.2.toNat) fun i hi hg => by
    unfold cntG at hg
    rw [Bool.and_eq_true] at hg
    have := of_decide_eq_true hg.1
    have := List.mem_range.1 hi
    exact decide_eq_true ⟨by omega, this⟩
  rw [countP_mid (by omega)] at e
  unfold cntT
  omega
theorem rel_all {m : List Sp} {M : List Bool} (h : SOk m) (k : Rel m M) {x : Sp} (hr : spRight x = true) : hasS x m = decide (((cntT M x : Nat) : Int) = x.2 - x.1) := by
  have hx := spRight_iff.1 hr
  have e := rel_split (m := m) (M := M) hr
  rw [Bool.eq_iff_iff, hasS_iff h, decide_eq_true_iff]
  have hz : ((cntT M x : Nat) : Int) = x.2 - x.1 ↔ (List.range x.2.toNat).countP (fun i => decide (x.1.toNat ≤ i ∧ i < x.2.toNat) && !cntG M x.1 i) = 0 := by omega
  rw [hz, List.countP_eq_zero]
  constructor
  · rintro ⟨_, q⟩ i hi
    have hi := List.mem_range.1 hi
    by_cases c : x.1.toNat ≤ i
    · have := ((k.has i).1 (q i (by omega) (by omega))).2
      rw [Int.toNat_natCast] at this
      unfold cntG
      rw [this, decide_eq_true (show x.1 ≤ (i : Int) by omega)]; simp
    · rw [decide_eq_false (fun h => c h.1)]; simp
  · intro q
    refine ⟨hr, fun p a b => ?_⟩
    have := q p.toNat (List.mem_range.2 (by omega))
    rw [decide_eq_true (show x.1.toNat ≤ p.toNat ∧ p.toNat < x.2.toNat by omega)] at this
    refine (k.has p).2 ⟨by omega, ?_⟩
    unfold cntG at this
    cases hb : bitT M p.toNat
    · rw [hb] at this; simp at this
    · rfl
theorem with_len {L M : List Bool} {x : Sp} {is : Bool} (hr : spRight x = true) (hL : L.length ≤ 65536) (hw : Withs L M x is) : M.length ≤ 65536 := by
  have := spRight_iff.1 hr
  have := hw.len
  omega
theorem rel_add {l : List Sp} {L M : List Bool} {x : Sp} (h : SOk l) (k : Rel l L) (hr : spRight x = true) (hw : Withs L M x true) : Nrm (-1) (addL x false l) ∧ Rel (addL x false l) M := by
  have hx := spRight_iff.1 hr
  obtain ⟨h1, h2⟩ := addL_spec h.n (x := x) (by omega) hx.2.1 hx.2.2
  refine ⟨h1, with_len hr k.len hw, fun p => ?_⟩
  rw [h2 p, k.has p]
  constructor
  · rintro (⟨a, b⟩ | ⟨a, b⟩)
    · refine ⟨a, ?_⟩
      rw [hw.bit]; split
      · rfl
      · exact b
    · exact ⟨by omega, by rw [hw.bit, if_pos (by omega)]⟩
  · rintro ⟨a, b⟩
    rw [hw.bit] at b
    split at b
    · exact .inr (by omega)
    · exact .inl ⟨a, b⟩
end Go.Proofs.YtgbpjbpdpgbngaaGreat
/-
  Equal fields.
-/
namespace Go.Proofs.YtgbpjbpdpgbngaaGreat
open Go Go.Am

end Go.Proofs.YtgbpjbpdpgbngaaGreat
/-
  The document's lengths: how many bytes they have.
-/
namespace Go.Proofs.YtgbpjbpdpgbngaaGreat
open Go Go.Am

end Go.Proofs.YtgbpjbpdpgbngaaGreat
/-
  Packets that are acknowledged: their data, and which are equal; the document's sizes.
-/
namespace Go.Proofs.YtgbpjbpdpgbngaaGreat
open Go Go.Am

set_option maxRecDepth 20000 in
theorem rData10 (p : Pk) (σ : AHeap) (hn : p.fs.length ≤ 1000) (ht : total p.fs ≤ 1000000) : ACalls Tryz.prog i_bowlineref10_Data [amV p] σ fun v σ' => v = sl .none p.fs.flatten ∧ σ' = σ := by
  refine k_bowlineref10_Data rfl ?_
  have H := Hp.nil σ
  (refine wX ?_)
  refine hnew H rfl ?_
  clear H
  intro id τ H
  (refine wX ?_)
  have b1 : True := trivial
  refine aloop (α := Nat × Tok × AHeap) (fun y => [(s3, sl y.2.1 (p.fs.take y.1).flatten), (s4, i64v y.1)]) (fun y => y.2.2) (fun y => y.1 ≤ p.fs.length ∧ Hp σ [.t y.2.1, .o id (.cells (amV p).cells)] y.2.2) (fun y => p.fs.length - y.1) (0, .full, τ) ⟨Nat.zero_le _, H.cons_full⟩ (Sub.refl _) ?_ ?_
  · (refine wX ?_)
    exact elX
  clear H
  rintro ⟨i, tk, τ⟩ ⟨hi, H⟩
  dsimp only at hi H ⊢
  (refine wX ?_)
  (repeat ((first | (apply zL H; (· repeat first | exact .h | apply AtK.t); (· rfl)) | rw [List.length_map]); (refine wX ?_)))
  have htt := total_take_le p.fs i
  by_cases h : i < p.fs.length
  · have hts := total_take_succ p.fs i h
    have htl := total_take_le p.fs (i + 1)
    (repeat ((first | refine zY (by omega) ?_ | (apply zL H; (· repeat first | exact .h | apply AtK.t); (· rfl))); (refine wX ?_)))
    refine aget (by omega) (get_lists h) ?_
    (refine wX ?_)
    (repeat ((refine zR rfl ?_); (refine wX ?_)))
    apply zP H
    · (repeat first | exact .h | apply AtK.t)
    · exact (by rw [List.length_map, List.length_map]; show (total (p.fs.take i) + _) * 1 ≤ _; omega)
    intro tk2
    (conv => whnf)
    clear H
    intro τ H
    (refine wX ?_)
    rw [← List.map_append]
    (repeat ((refine zI (by omega) ?_); (refine wX ?_)))
    refine ⟨(i + 1, tk2, τ), ⟨h, H⟩, by dsimp only; omega, Sub.refl _, ?_⟩
    dsimp only
    rw [List.take_add_one, List.getElem?_eq_getElem h, List.flatten_append, show (some p.fs[i]).toList.flatten = p.fs[i] by simp]
    (refine wX ?_)
    exact elX
  · rw [List.take_of_length_le (by omega)]
    (repeat ((refine zN (by omega) ?_); (refine wX ?_)))
    exact aret (VLe.slice _ _ _) H.sub ⟨rfl, rfl⟩
end Go.Proofs.YtgbpjbpdpgbngaaGreat
/-
  What came in parts, the document's: pieces, and what reads them.
-/
namespace Go.Proofs.YtgbpjbpdpgbngaaGreat
set_option maxRecDepth 20000
open Go Go.Am

theorem RT2.cells1 {v : AVal} {L : List Bool} {E : List HE} (h : RT2 v L E) : v.cells = [v] := by cases h <;> rfl
/-- A piece: its number, its bytes (-1: none there), its end (-1: unknown), its edges, and its FI's two bits. -/
structure DP where
  sn : Int
  B : List Int
  e : Int
  G : List Bool
  wi : Bool
  cu : Bool
abbrev bls (t : Tok) (l : List Bool) : AVal := .slice 1 (l.map boolv) t
def dpC (t : Tok) (d : DP) : List AVal := [i64v d.sn, ints t d.B, i64v d.e, bls t d.G, boolv d.wi, boolv d.cu]
def dpV (t : Tok) (d : DP) : AVal := .agg (dpC t d)
theorem get_dp {t : Tok} {l : List DP} {i : Nat} (h : i < l.length) : (l.map (dpV t))[((i : Nat) : Int).toNat]? = some (dpV t l[i]) := by
  rw [Int.toNat_natCast, List.getElem?_map, List.getElem?_eq_getElem h]; rfl
theorem get_intsD {l : List Int} {i : Nat} (h : i < l.length) : (l.map i64v)[((i : Nat) : Int).toNat]? = some (i64v l[i]) := by
  rw [Int.toNat_natCast, List.getElem?_map, List.getElem?_eq_getElem h]; rfl
theorem get_boolsD {l : List Bool} {i : Nat} (h : i < l.length) : (l.map boolv)[((i : Nat) : Int).toNat]? = some (boolv (bitT l i)) := by
  rw [Int.toNat_natCast, List.getElem?_map, List.getElem?_eq_getElem h]; unfold bitT; rw [List.getElem?_eq_getElem h]; rfl
def thereL (B : List Int) : List Bool := B.map fun z => decide (0 ≤ z)
theorem thereL_len (B : List Int) : (thereL B).length = B.length := List.length_map _
theorem thereL_bit {B : List Int} {i : Nat} (h : i < B.length) : bitT (thereL B) i = decide (0 ≤ B[i]) := by
  unfold bitT thereL
  rw [List.getElem?_map, List.getElem?_eq_getElem h]; rfl
def topT (L : List Bool) : Nat → Nat
  | 0 => 0
  | k + 1 => if bitT L k = true then k + 1 else topT L k
theorem topT_le (L : List Bool) : ∀ k, topT L k ≤ k
  | 0 => Nat.le_refl _
  | k + 1 => by
    unfold topT
    split
    · exact Nat.le_refl _
    · exact Nat.le_succ_of_le (topT_le L k)
def findE (l : List DP) (sn : Int) : Int := match l.findIdx? fun d => d.sn == sn with
  | none => -1
  | some i => (i : Int)
theorem findE_at {l : List DP} {sn : Int} {i : Nat} (h : i < l.length) (h1 : l[i].sn = sn) (h2 : ∀ j, (hj : j < i) → l[j].sn ≠ sn) : findE l sn = i := by
  have : l.findIdx? (fun d => d.sn == sn) = some i := by
    rw [List.findIdx?_eq_some_iff_getElem]
    exact ⟨h, by simp [h1], fun j hj => by simp [h2 j hj]⟩
  unfold findE; rw [this]
theorem findE_no {l : List DP} {sn : Int} (h : ∀ d ∈ l, d.sn ≠ sn) : findE l sn = -1 := by
  have : l.findIdx? (fun d => d.sn == sn) = none := by
    rw [List.findIdx?_eq_none_iff]
    intro d hd; simp [h d hd]
  unfold findE; rw [this]
theorem findE_spec (l : List DP) (sn : Int) : (findE l sn = -1 ∧ ∀ d ∈ l, d.sn ≠ sn) ∨ ∃ A d B, l = A ++ d :: B ∧ findE l sn = A.length ∧ d.sn = sn ∧ ∀ x ∈ A, x.sn ≠ sn := by
  induction l with
  | nil => exact .inl ⟨rfl, nofun⟩
  | cons d l ih =>
    by_cases h : d.sn = sn
    · exact .inr ⟨[], d, l, rfl, findE_at (i := 0) (by simp) h (fun j hj => absurd hj (Nat.not_lt_zero _)), h, nofun⟩
    · rcases ih with ⟨h1, h2⟩ | ⟨A, x, B, rfl, h1, h2, h3⟩
      · refine .inl ⟨findE_no fun y hy => ?_, fun y hy => ?_⟩ <;>
        · rcases List.mem_cons.1 hy with rfl | hy
          · exact h
          · exact h2 y hy
      · have hA : ∀ y ∈ d :: A, y.sn ≠ sn := fun y hy => by
          rcases List.mem_cons.1 hy with rfl | hy
          · exact h
          · exact h3 y hy
        refine .inr ⟨d :: A, x, B, rfl, findE_at (i := (d :: A).length) (by simp) ?_ (fun j hj => ?_), h2, hA⟩
        · show ((d :: A) ++ x :: B)[(d :: A).length].sn = sn
          rw [List.getElem_append_right (Nat.le_refl _)]
          simpa using h2
        · have e : ((d :: A) ++ x :: B)[j]'(by simp only [List.length_append]; omega) = (d :: A)[j] := List.getElem_append_left hj
          show (((d :: A) ++ x :: B)[j]'(by simp only [List.length_append]; omega)).sn ≠ sn
          rw [e]
          exact hA _ (List.getElem_mem hj)
abbrev dbC (tk : Tok) (l : List DP) : List AVal := [.slice 6 (l.map (dpV .none)) tk]
section
variable {σ : AHeap} {ix : Nat} {tk : Tok} {l : List DP}
theorem eFind (b1 : σ ix = some (.cells (dbC tk l))) (hl : l.length ≤ 100000) (sn : Int) : ACalls Tryz.prog i_bowlineref24_Buffer_Find [.ptr ix 0, i64v sn] σ fun v σ' => v = i64v (findE l sn) ∧ σ' = σ := by
  refine k_bowlineref24_Buffer_Find rfl ?_
  have H := Hp.nil σ
  (refine wX ?_)
  refine aloop (α := Nat) (fun i => [(s5, i64v i)]) (fun _ => σ) (fun i => i ≤ l.length ∧ ∀ j, (hj : j < l.length) → j < i → l[j].sn ≠ sn) (fun i => l.length - i) 0 ⟨Nat.zero_le _, fun j hj h => absurd h (Nat.not_lt_zero _)⟩ (Sub.refl _) ?_ ?_
  · (refine wX ?_)
    exact elX
  rintro i ⟨hi, hno⟩
  (refine wX ?_)
  (repeat ((first | refine zB H b1 rfl ?_ | rw [List.length_map]); (refine wX ?_)))
  by_cases h : i < l.length
  · (repeat ((first | refine zY (by omega) ?_ | refine zB H b1 rfl ?_); (refine wX ?_)))
    refine aget (by omega) (get_dp h) ?_
    (refine wX ?_)
    refine acell rfl ?_
    (refine wX ?_)
    by_cases hs : l[i].sn = sn
    · (repeat ((refine zY (by omega) ?_); (refine wX ?_)))
      exact aret (VLe.refl _) (Sub.refl _) ⟨by rw [findE_at h hs fun j hj => hno j (by omega) hj], rfl⟩
    · (repeat ((first | refine zI (by omega) ?_ | refine zN (by omega) ?_); (refine wX ?_)))
      refine ⟨i + 1, ⟨by omega, fun j hj hji => ?_⟩, by omega, Sub.refl _, ?_⟩
      · by_cases e : j = i
        · subst e; exact hs
        · exact hno j hj (by omega)
      (refine wX ?_)
      exact elX
  · (repeat ((refine zN (by omega) ?_); (refine wX ?_)))
    exact aret (VLe.refl _) (Sub.refl _) ⟨by rw [findE_no fun d hd => by
      obtain ⟨j, hj, rfl⟩ := List.getElem_of_mem hd
      exact hno j hj (by omega)], rfl⟩
theorem eTop (t : Tok) (d : DP) (σ : AHeap) (hl : d.B.length ≤ 100000) : ACalls Tryz.prog i_bowlineref24_top [dpV t d] σ fun v σ' => v = i64v (topT (thereL d.B) d.B.length) ∧ σ' = σ := by
  refine k_bowlineref24_top rfl ?_
  have H := Hp.nil σ
  (refine wX ?_)
  refine hnew H rfl ?_
  clear H
  intro i1 τ H
  (refine wX ?_)
  refine aloop (α := Nat) (fun i => [(s3, i64v (topT (thereL d.B) i)), (s4, i64v i)]) (fun _ => τ) (fun i => i ≤ d.B.length) (fun i => d.B.length - i) 0 (Nat.zero_le _) (Sub.refl _) ?_ ?_
  · (refine wX ?_)
    exact elX
  intro i hi
  (refine wX ?_)
  (repeat ((first | (apply zL H; (· repeat first | exact .h | apply AtK.t); (· rfl)) | rw [List.length_map]); (refine wX ?_)))
  by_cases h : i < d.B.length
  · have e : topT (thereL d.B) (i + 1) = if 0 ≤ d.B[i] then i + 1 else topT (thereL d.B) i := by
      show (if bitT (thereL d.B) i = true then _ else _) = _
      rw [thereL_bit h]
      by_cases h2 : 0 ≤ d.B[i]
      · rw [decide_eq_true h2, if_pos h2, if_pos rfl]
      · rw [decide_eq_false h2, if_neg h2, if_neg (by simp)]
    (repeat ((first | refine zY (by omega) ?_ | (apply zL H; (· repeat first | exact .h | apply AtK.t); (· rfl))); (refine wX ?_)))
    refine aget (by omega) (get_intsD h) ?_
    (refine wX ?_)
    refine acell rfl ?_
    (refine wX ?_)
    by_cases h2 : 0 ≤ d.B[i]
    · rw [if_pos h2] at e
      (repeat ((first | refine zI (by omega) ?_ | refine zY (by omega) ?_); (refine wX ?_)))
      refine ⟨i + 1, h, by omega, Sub.refl _, ?_⟩
      rw [e, show ((i + 1 : Nat) : Int) = (i : Int) + 1 by omega]
      (refine wX ?_)
      exact elX
    · rw [if_neg h2] at e
      (repeat ((first | refine zI (by omega) ?_ | refine zN (by omega) ?_); (refine wX ?_)))
      refine ⟨i + 1, h, by omega, Sub.refl _, ?_⟩
      rw [e]
      (refine wX ?_)
      exact elX
  · obtain rfl : i = d.B.length := by omega
    (repeat ((refine zN (by omega) ?_); (refine wX ?_)))
    exact aret (VLe.refl _) H.sub ⟨rfl, rfl⟩
theorem ePlaces (t : Tok) (d : DP) (σ : AHeap) (hl : d.B.length ≤ 100000) : ACalls Tryz.prog i_bowlineref24_places [dpV t d] σ fun v σ' => ∃ w E, v = .agg [w] ∧ RT2 w (thereL d.B) E ∧ Hp σ E σ' := by
  refine km_bowlineref24_places rfl ?_
  have H := Hp.nil σ
  (refine wX ?_)
  refine hnew H rfl ?_
  clear H
  intro i1 τ H
  (refine wX ?_)
  refine hnew H rfl ?_
  clear H
  intro i2 τ H
  (refine wX ?_)
  refine hnew H rfl ?_
  clear H
  intro i3 τ H
  (refine wX ?_)
  (repeat (((apply zS H; (· repeat first | exact .h | apply AtK.t); (· rfl); (conv => whnf); clear H; intro τ H)); (refine wX ?_)))
  refine aloop (α := Nat × AVal × List HE × AHeap) (fun y => [(s4, i64v y.1)]) (fun y => y.2.2.2) (fun y => y.1 ≤ d.B.length ∧ RT2 y.2.1 ((thereL d.B).take y.1) y.2.2.1 ∧ Hp σ (.o i3 (.cells [y.2.1]) :: .o i2 (.cells [.slice 1 [] .full]) :: .o i1 (.cells (dpC t d)) :: y.2.2.1) y.2.2.2) (fun y => d.B.length - y.1)
    (0, .slice 1 [] .full, [], τ) ⟨Nat.zero_le _, .nil, H⟩ (Sub.refl _) ?_ ?_
  · (refine wX ?_)
    exact elX
  clear H
  rintro ⟨i, v, E, τ⟩ ⟨hi, hv, H⟩
  dsimp only at hi hv H ⊢
  (refine wX ?_)
  (repeat ((first | (apply zL H; (· repeat first | exact .h | apply AtK.t); (· rfl)) | rw [List.length_map]); (refine wX ?_)))
  by_cases h : i < d.B.length
  · have e : (thereL d.B).take (i + 1) = (thereL d.B).take i ++ [decide (0 ≤ d.B[i])] := by
      have h2 : i < (thereL d.B).length := by rw [thereL_len]; exact h
      have h3 : (thereL d.B)[i] = decide (0 ≤ d.B[i]) := List.getElem_map _
      rw [List.take_add_one, List.getElem?_eq_getElem h2, h3]; rfl
    (repeat ((first | refine zY (by omega) ?_ | (apply zL H; (· repeat first | exact .h | apply AtK.t); (· rfl))); (refine wX ?_)))
    refine aget (by omega) (get_intsD h) ?_
    (refine wX ?_)
    refine acell rfl ?_
    (refine wX ?_)
    rw [show @decide (0 ≤ d.B[i]) (leDec 0 d.B[i]) = decide (0 ≤ d.B[i]) from dec_congr Iff.rfl]
    have hlen : ((thereL d.B).take i).length ≤ 1000000000 := by rw [List.length_take, thereL_len]; omega
    generalize (thereL d.B).take i = xs at *
    have K := Hp.comm [.o i3 (.cells [v]), .o i2 (.cells [.slice 1 [] .full]), .o i1 (.cells (dpC t d))] E H
    cases hv with
    | nil =>
      (refine wX ?_)
      refine (rt_app .nil (E := []) K hlen (decide (0 ≤ d.B[i])) ?_).1 _ _ rfl
      clear H K
      intro v2 E2 τ hv2 H
      replace H : Hp σ (.o i3 (.cells [.slice 1 [] .full]) :: .o i2 (.cells [.slice 1 [] .full]) :: .o i1 (.cells (dpC t d)) :: E2) τ := Hp.comm E2 [_, _, _] H
      (refine wX ?_)
      rw [hv2.cells1]
      (refine wX ?_)
      refine zS H (k := 0) .h (by show (v2.isCell && true) = true; rw [hv2.isCell]; rfl) ?_
      (conv => whnf)
      clear H
      intro τ H
      (refine wX ?_)
      (repeat ((refine zI (by omega) ?_); (refine wX ?_)))
      refine ⟨(i + 1, v2, E2, τ), ⟨h, by rw [e]; exact hv2, H⟩, by dsimp only; omega, Sub.refl _, ?_⟩
      (refine wX ?_)
      exact elX
    | row r _ hne =>
      (refine wX ?_)
      refine (rt_app (.row r xs hne) (E := [.o r (.cells (xs.map boolv))]) K hlen (decide (0 ≤ d.B[i])) ?_).2 _ _ rfl
      clear H K
      intro v2 E2 τ hv2 H
      replace H : Hp σ (.o i3 (.cells [.ms r 1 0 xs.length]) :: .o i2 (.cells [.slice 1 [] .full]) :: .o i1 (.cells (dpC t d)) :: E2) τ := Hp.comm E2 [_, _, _] H
      (refine wX ?_)
      rw [hv2.cells1]
      (refine wX ?_)
      refine zS H (k := 0) .h (by show (v2.isCell && true) = true; rw [hv2.isCell]; rfl) ?_
      (conv => whnf)
      clear H
      intro τ H
      (refine wX ?_)
      (repeat ((refine zI (by omega) ?_); (refine wX ?_)))
      refine ⟨(i + 1, v2, E2, τ), ⟨h, by rw [e]; exact hv2, H⟩, by dsimp only; omega, Sub.refl _, ?_⟩
      (refine wX ?_)
      exact elX
  · rw [List.take_of_length_le (by rw [thereL_len]; omega)] at hv
    (repeat ((first | refine zN (by omega) ?_ | (apply zA H; (· repeat first | exact .h | apply AtK.t))); (refine wX ?_)))
    refine zS H (k := 1) (.t .h) (by show (v.isCell && true) = true; rw [hv.isCell]; rfl) ?_
    (conv => whnf)
    clear H
    intro τ H
    (refine wX ?_)
    (repeat (((apply zA H; (· repeat first | exact .h | apply AtK.t))); (refine wX ?_)))
    exact aret (VLe.refl _) (Sub.refl _) ⟨v, E, rfl, hv, H.tail.tail.tail⟩
def wholeD (d : DP) : Bool := decide (0 ≤ d.e) && decide (((cntT (thereL d.B) (0, d.e) : Nat) : Int) = d.e)
theorem eWholeD (t : Tok) (d : DP) (σ : AHeap) (hl : d.B.length ≤ 65536) (he : d.e ≤ 100000) : ACalls Tryz.prog i_bowlineref24_Whole [dpV t d] σ fun v σ' => v = boolv (wholeD d) ∧ σ' = σ := by
  refine k_bowlineref24_Whole rfl ?_
  have H := Hp.nil σ
  (refine wX ?_)
  refine hnew H rfl ?_
  clear H
  intro i1 τ H
  (refine wX ?_)
  (repeat (((apply zL H; (· repeat first | exact .h | apply AtK.t); (· rfl))); (refine wX ?_)))
  unfold wholeD
  by_cases h : d.e < 0
  · (repeat ((refine zY (by omega) ?_); (refine wX ?_)))
    exact aret (VLe.refl _) H.sub ⟨by rw [decide_eq_false (by omega : ¬ 0 ≤ d.e)]; rfl, rfl⟩
  (repeat ((first | refine zN (by omega) ?_ | (apply zL H; (· repeat first | exact .h | apply AtK.t); (· rfl)) | (apply zA H; (· repeat first | exact .h | apply AtK.t))); (refine wX ?_)))
  refine acall (ePlaces t d τ (by omega)) ?_
  rintro _ τ2 ⟨w, E, rfl, hw, N⟩
  refine ⟨?_, N.ext⟩
  (refine wX ?_)
  refine acall (rCount03 (hw.dvt (F := []) N) (0, d.e) (by rw [thereL_len]; omega) (Int.le_refl 0) (by dsimp only; omega) (by dsimp only; omega)) ?_
  rintro _ σ_ ⟨rfl, e_⟩
  obtain rfl := e_.symm
  refine ⟨?_, Ext.refl _⟩
  (refine wX ?_)
  exact aret (VLe.refl _) (Sub.trans N.sub H.sub) ⟨by rw [decide_eq_true (by omega : 0 ≤ d.e)]; rfl, rfl⟩
end
end Go.Proofs.YtgbpjbpdpgbngaaGreat
/-
  What came in parts, the document's: what is missing, which packets may come, how many bytes are there.
-/
namespace Go.Proofs.YtgbpjbpdpgbngaaGreat
set_option maxRecDepth 20000
open Go Go.Am

def gapsT (L : List Bool) (to : Int) : List Sp := if 1 ≤ to ∧ to ≤ 65536 then runT L false to.toNat else []
def missO (d : DP) : List Sp := if 0 ≤ d.e then gapsT (thereL d.B) d.e else gapsT (thereL d.B) (topT (thereL d.B) d.B.length : Int) ++ [((topT (thereL d.B) d.B.length : Int), 0)]
def missE (l : List DP) (sn : Int) : List Sp := match l.find? fun d => d.sn == sn with
  | none => []
  | some d => missO d
theorem RS2.cells1 {v : AVal} {L : List Sp} {E : List HE} (h : RS2 v L E) : v.cells = [v] := by cases h <;> rfl
/-- A row of spans, one more. -/
theorem rs_app {σb : AHeap} {v : AVal} {xs : List Sp} {E G : List HE} {τ : AHeap} (h : RS2 v xs E) (H : Hp σb (E ++ G) τ) (hl : xs.length ≤ 1000000000) (x : Sp) {K : AVal → AHeap → Prop}
    (hK : ∀ v' E' τ', RS2 v' (xs ++ [x]) E' → Hp σb (E' ++ G) τ' → K v' τ') :
    (∀ s t, v = .slice 2 s t → AAppNew τ 2 16 s t [spV x] K) ∧ (∀ r ln, v = .ms r 2 0 ln → AAppM τ r 2 0 ln 16 [spV x] K) := by
  cases h with
  | nil =>
    refine ⟨fun s t e => ?_, fun r ln e => (by cases e)⟩
    cases e
    refine happnew H (by simp) (by simp) rfl fun r τ' H' => hK _ _ τ' (.row r [x] (by simp)) H'
  | row r _ hx =>
    refine ⟨fun s t e => (by cases e), fun r' ln e => ?_⟩
    cases e
    refine happm H (k := 0) rfl (spC_len xs).symm (by simp only [List.length_singleton]; omega) rfl fun r2 τ' H' => ?_
    rw [show spC xs ++ [spV x].flatMap AVal.cells = spC (xs ++ [x]) from by rw [spC_append]; rfl] at H'
    have := hK _ _ τ' (.row r2 (xs ++ [x]) (by simp)) H'
    rw [List.length_append] at this
    exact this
theorem gapsT_len {L : List Bool} {to : Int} : (gapsT L to).length ≤ 65536 := by
  unfold gapsT
  split
  · exact Nat.le_trans (runsL_len _ _) (by omega)
  · exact Nat.zero_le _
section
variable {σ : AHeap} {ix : Nat} {tk : Tok} {l : List DP}
theorem find_at (l : List DP) (sn : Int) : (findE l sn = -1 ∧ l.find? (fun d => d.sn == sn) = none) ∨ ∃ (i : Nat) (h : i < l.length), findE l sn = i ∧ l.find? (fun d => d.sn == sn) = some l[i] := by
  rcases findE_spec l sn with ⟨h1, h2⟩ | ⟨A, d, B, hl, h1, h2, h3⟩
  · exact .inl ⟨h1, List.find?_eq_none.2 fun x hx => by simp [h2 x hx]⟩
  · subst hl
    refine .inr ⟨A.length, by rw [List.length_append, List.length_cons]; omega, h1, ?_⟩
    rw [List.find?_append, List.find?_eq_none.2 fun x hx => by simp [h3 x hx]]
    rw [List.getElem_append_right (Nat.le_refl _)]
    simp [h2]
set_option maxHeartbeats 2000000 in
theorem eMissing (b1 : σ ix = some (.cells (dbC tk l))) (hl : l.length ≤ 100000) (hd : ∀ d ∈ l, d.B.length ≤ 65536 ∧ d.e ≤ 100000) (sn : Int) : ACalls Tryz.prog i_bowlineref24_Buffer_Missing [.ptr ix 0, i64v sn] σ fun v σ' => ∃ E, RS2 v (missE l sn) E ∧ Hp σ E σ' := by
  refine km_bowlineref24_Buffer_Missing rfl ?_
  have H := Hp.nil σ
  (refine wX ?_)
  refine acall (eFind b1 hl sn) ?_
  rintro _ σ_ ⟨rfl, e_⟩
  obtain rfl := e_.symm
  refine ⟨?_, Ext.refl _⟩
  (refine wX ?_)
  unfold missE
  rcases find_at l sn with ⟨h1, h2⟩ | ⟨i, hi, h1, h2⟩
  · rw [h1, h2]
    (refine wX ?_)
    skip
    exact aret (VLe.refl _) (Sub.refl _) ⟨[], .nil, H⟩
  rw [h1, h2]
  obtain ⟨d, hdd⟩ : ∃ d, d = l[i] := ⟨_, rfl⟩
  obtain ⟨g1, g2⟩ := hd d (hdd ▸ List.getElem_mem hi)
  have htop := topT_le (thereL d.B) d.B.length
  (refine wX ?_)
  (repeat ((first | refine zN (by omega) ?_ | refine zB H b1 rfl ?_); (refine wX ?_)))
  refine aget (by omega) (get_dp hi) ?_
  rw [← hdd]
  (refine wX ?_)
  (repeat ((refine acellA ?_); (refine wX ?_)))
  refine hnew H rfl ?_
  clear H
  intro i6 τ H
  (refine wX ?_)
  (repeat ((first | (apply zL H; (· repeat first | exact .h | apply AtK.t); (· rfl)) | (apply zS H; (· repeat first | exact .h | apply AtK.t); (· rfl); (conv => whnf); clear H; intro τ H)); (refine wX ?_)))
  dsimp only
  unfold missO
  by_cases he : 0 ≤ d.e
  · rw [if_pos he]
    (repeat ((first | refine zY (by omega) ?_ | (apply zL H; (· repeat first | exact .h | apply AtK.t); (· rfl)) | (apply zA H; (· repeat first | exact .h | apply AtK.t))); (refine wX ?_)))
    refine acall (ePlaces .none d τ (by omega)) ?_
    rintro _ τ2 ⟨w, E, rfl, hw, N⟩
    refine ⟨?_, N.ext⟩
    (refine wX ?_)
    refine acall (rGaps03 (hw.dvt (F := []) N) (by rw [thereL_len]; omega) d.e) ?_
    rintro _ τ3 ⟨E3, hE, N3⟩
    refine ⟨?_, N3.ext⟩
    (refine wX ?_)
    exact aret (VLe.refl _) (Sub.refl _) ⟨E3, hE, ((H.join N).join N3).left⟩
  · rw [if_neg he]
    (repeat ((first | refine zN (by omega) ?_ | (apply zA H; (· repeat first | exact .h | apply AtK.t))); (refine wX ?_)))
    refine acall (ePlaces .none d τ (by omega)) ?_
    rintro _ τ2 ⟨w, E, rfl, hw, N⟩
    refine ⟨?_, N.ext⟩
    (refine wX ?_)
    refine acall (eTop .none d τ2 (by omega)) ?_
    rintro _ σ_ ⟨rfl, e_⟩
    obtain rfl := e_.symm
    refine ⟨?_, Ext.refl _⟩
    (refine wX ?_)
    refine acall (rGaps03 (hw.dvt (F := []) N) (by rw [thereL_len]; omega) (topT (thereL d.B) d.B.length : Int)) ?_
    rintro _ τ3 ⟨E3, hE, N3⟩
    refine ⟨?_, N3.ext⟩
    (refine wX ?_)
    refine acall (eTop .none d τ3 (by omega)) ?_
    rintro _ σ_ ⟨rfl, e_⟩
    obtain rfl := e_.symm
    refine ⟨?_, Ext.refl _⟩
    (refine wX ?_)
    have K0 := ((H.join N).join N3)
    have hE : RS2 _ (gapsT (thereL d.B) (topT (thereL d.B) d.B.length : Int)) E3 := hE
    have hgl := gapsT_len (L := thereL d.B) (to := (topT (thereL d.B) d.B.length : Int))
    generalize gapsT (thereL d.B) (topT (thereL d.B) d.B.length : Int) = xs at *
    cases hE with
    | nil =>
      (refine wX ?_)
      refine (rs_app .nil (E := []) K0 (by omega) ((topT (thereL d.B) d.B.length : Int), 0) ?_).1 _ _ rfl
      intro v2 E2 τ4 hv2 H4
      (refine wX ?_)
      exact aret (VLe.refl _) (Sub.refl _) ⟨E2, hv2, H4.left⟩
    | row r _ hne =>
      (refine wX ?_)
      refine (rs_app (.row r xs hne) K0 (by omega) ((topT (thereL d.B) d.B.length : Int), 0) ?_).2 _ _ rfl
      intro v2 E2 τ4 hv2 H4
      (refine wX ?_)
      exact aret (VLe.refl _) (Sub.refl _) ⟨E2, hv2, H4.left⟩
def bytesD (l : List DP) : Int := (l.map fun d => ((cntT (thereL d.B) (0, (d.B.length : Int)) : Nat) : Int)).sum
end
end Go.Proofs.YtgbpjbpdpgbngaaGreat
/-
  What came in parts, the document's: which packets may come.
-/
namespace Go.Proofs.YtgbpjbpdpgbngaaGreat
set_option maxRecDepth 20000
open Go Go.Am

def badB (p : Pk) : Prop := p.fs.length < 1 ∨ p.fs.length > 24 ∨ p.fi < 0 ∨ p.fi > 3 ∨ p.off < 0 ∨ p.off > 4000 ∨ (p.part = false ∧ p.off ≠ 0)
theorem right_bad {p : Pk} (h : badB p) : rightB p = false := by
  unfold rightB
  rcases h with h | h | h | h | h | h | h
  · simp [h]
  · simp [h]
  · simp [h]
  · simp [h]
  · rw [decide_eq_false (by omega : ¬ 0 ≤ p.off)]; simp
  · rw [decide_eq_false (by omega : ¬ p.off ≤ 4000)]; simp
  · rw [h.1, decide_eq_false h.2]; simp
theorem right_hollow {p : Pk} (h : hollowB p.fs = true) : rightB p = false := by
  unfold rightB; rw [h]; simp
theorem right_good {p : Pk} (h : ¬ badB p) (h2 : hollowB p.fs = false) : rightB p = decide ((total p.fs : Int) ≤ 4000 - p.off) := by
  unfold badB at h
  simp only [not_or] at h
  obtain ⟨a1, a2, a3, a4, a5, a6, a7⟩ := h
  unfold rightB
  rw [h2, decide_eq_false a1, decide_eq_false a2, decide_eq_false a3, decide_eq_false a4, decide_eq_true (by omega : 0 ≤ p.off), decide_eq_true (by omega : p.off ≤ 4000)]
  have : (p.part || decide (p.off = 0)) = true := by
    cases hp : p.part
    · by_cases h0 : p.off = 0
      · simp [h0]
      · exact absurd ⟨hp, h0⟩ a7
    · rfl
  rw [this]; simp
theorem eRight (p : Pk) (σ : AHeap) (hl : p.fs.length ≤ 1000) (ht : total p.fs ≤ 1000000) : ACalls Tryz.prog i_bowlineref24_right [amV p] σ fun v σ' => v = boolv (rightB p) ∧ σ' = σ := by
  refine k_bowlineref24_right rfl ?_
  have H := Hp.nil σ
  (refine wX ?_)
  refine hnew H rfl ?_
  clear H
  intro i1 τ H
  (refine wX ?_)
  (repeat ((first | (apply zL H; (· repeat first | exact .h | apply AtK.t); (· rfl)) | rw [List.length_map]); (refine wX ?_)))
  by_cases c1 : p.fs.length < 1
  · (repeat ((refine zY (by omega) ?_); (refine wX ?_)))
    exact aret (VLe.refl _) H.sub ⟨by rw [right_bad (.inl c1)], rfl⟩
  (repeat ((first | refine zN (by omega) ?_ | (apply zL H; (· repeat first | exact .h | apply AtK.t); (· rfl)) | rw [List.length_map]); (refine wX ?_)))
  by_cases c2 : p.fs.length > 24
  · (repeat ((refine zY (by omega) ?_); (refine wX ?_)))
    exact aret (VLe.refl _) H.sub ⟨by rw [right_bad (.inr (.inl c2))], rfl⟩
  (repeat ((first | refine zN (by omega) ?_ | (apply zL H; (· repeat first | exact .h | apply AtK.t); (· rfl))); (refine wX ?_)))
  by_cases c3 : p.fi < 0
  · (repeat ((refine zY (by omega) ?_); (refine wX ?_)))
    exact aret (VLe.refl _) H.sub ⟨by rw [right_bad (.inr (.inr (.inl c3)))], rfl⟩
  (repeat ((first | refine zN (by omega) ?_ | (apply zL H; (· repeat first | exact .h | apply AtK.t); (· rfl))); (refine wX ?_)))
  by_cases c4 : p.fi > 3
  · (repeat ((refine zY (by omega) ?_); (refine wX ?_)))
    exact aret (VLe.refl _) H.sub ⟨by rw [right_bad (.inr (.inr (.inr (.inl c4))))], rfl⟩
  (repeat ((first | refine zN (by omega) ?_ | (apply zL H; (· repeat first | exact .h | apply AtK.t); (· rfl))); (refine wX ?_)))
  by_cases c5 : p.off < 0
  · (repeat ((refine zY (by omega) ?_); (refine wX ?_)))
    exact aret (VLe.refl _) H.sub ⟨by rw [right_bad (.inr (.inr (.inr (.inr (.inl c5)))))], rfl⟩
  (repeat ((first | refine zN (by omega) ?_ | (apply zL H; (· repeat first | exact .h | apply AtK.t); (· rfl))); (refine wX ?_)))
  by_cases c6 : p.off > 4000
  · (repeat ((refine zY (by omega) ?_); (refine wX ?_)))
    exact aret (VLe.refl _) H.sub ⟨by rw [right_bad (.inr (.inr (.inr (.inr (.inr (.inl c6))))))], rfl⟩
  (repeat ((first | refine zN (by omega) ?_ | (apply zL H; (· repeat first | exact .h | apply AtK.t); (· rfl))); (refine wX ?_)))
  apply via_loop (fun b Q => ¬ badB p → setsK (Env.full 9) [(s1, .ptr i1 0), (s3, i64v 0)] fun e => ALoop Tryz.prog c51 b e τ Q)
  case f =>
    intro hK
    rcases (show p.part = false ∨ p.part = true by cases p.part <;> simp) with hp | hp
    · rw [hp]
      (refine wX ?_)
      (repeat (((apply zL H; (· repeat first | exact .h | apply AtK.t); (· rfl))); (refine wX ?_)))
      by_cases c7 : p.off = 0
      case neg =>
        (repeat ((refine zY (by omega) ?_); (refine wX ?_)))
        exact aret (VLe.refl _) H.sub ⟨by rw [right_bad (.inr (.inr (.inr (.inr (.inr (.inr ⟨hp, c7⟩))))))], rfl⟩
      (repeat ((refine zN (by omega) ?_); (refine wX ?_)))
      refine aloop_from ?_ (hK () (by unfold badB; rintro (h | h | h | h | h | h | h) <;> first | contradiction | exact h.2 c7))
      exact elX
    · rw [hp]
      (refine wX ?_)
      skip
      refine aloop_from ?_ (hK () (by unfold badB; rintro (h | h | h | h | h | h | h) <;> first | contradiction | (rw [hp] at h; cases h.1)))
      exact elX
  intro hb
  (conv => whnf)
  refine aloop (α := Nat) (fun i => [(s3, i64v i)]) (fun _ => τ) (fun i => i ≤ p.fs.length ∧ hollowB (p.fs.take i) = false) (fun i => p.fs.length - i) 0 ⟨Nat.zero_le _, rfl⟩ (Sub.refl _) ?_ ?_
  · (refine wX ?_)
    exact elX
  rintro i ⟨hi, hw⟩
  (refine wX ?_)
  (repeat ((first | (apply zL H; (· repeat first | exact .h | apply AtK.t); (· rfl)) | rw [List.length_map]); (refine wX ?_)))
  by_cases h : i < p.fs.length
  · have e : hollowB (p.fs.take (i + 1)) = decide (p.fs[i] = []) := by unfold hollowB at hw ⊢; rw [List.take_add_one, List.getElem?_eq_getElem h, List.any_append, hw]; simp
    (repeat ((first | refine zY (by omega) ?_ | (apply zL H; (· repeat first | exact .h | apply AtK.t); (· rfl))); (refine wX ?_)))
    refine aget (by omega) (get_lists h) ?_
    (refine wX ?_)
    (repeat ((first | refine zR rfl ?_ | rw [List.length_map]); (refine wX ?_)))
    by_cases hc : p.fs[i] = []
    · have hc2 : p.fs[i].length = 0 := by rw [hc]; rfl
      (repeat ((refine zY (by omega) ?_); (refine wX ?_)))
      exact aret (VLe.refl _) H.sub ⟨by rw [right_hollow (List.any_eq_true.2 ⟨p.fs[i], List.getElem_mem h, decide_eq_true hc⟩)], rfl⟩
    · have hc2 : p.fs[i].length ≠ 0 := by simpa using hc
      (repeat ((first | refine zI (by omega) ?_ | refine zN (by omega) ?_); (refine wX ?_)))
      refine ⟨i + 1, ⟨h, by rw [e, decide_eq_false hc]⟩, by omega, Sub.refl _, ?_⟩
      (refine wX ?_)
      exact elX
  · rw [List.take_of_length_le (by omega)] at hw
    rw [right_good hb hw]
    (repeat ((first | refine zN (by omega) ?_ | (apply zL H; (· repeat first | exact .h | apply AtK.t); (· rfl)) | (apply zA H; (· repeat first | exact .h | apply AtK.t))); (refine wX ?_)))
    refine acall (rData10 p τ (by omega) ht) ?_
    rintro _ σ_ ⟨rfl, e_⟩
    obtain rfl := e_.symm
    refine ⟨?_, Ext.refl _⟩
    (refine wX ?_)
    rw [List.length_map, show p.fs.flatten.length = total p.fs from rfl]
    (repeat ((refine zI (by omega) ?_); (refine wX ?_)))
    exact aret (VLe.refl _) H.sub ⟨congrArg boolv (dec_congr (by omega)), rfl⟩
end Go.Proofs.YtgbpjbpdpgbngaaGreat
/-
  What came in parts, the document's: a piece, with a packet's bytes: rows of its own.
-/
namespace Go.Proofs.YtgbpjbpdpgbngaaGreat
set_option maxRecDepth 20000
open Go Go.Am

/-- A row of single cells that is stored into, or none yet. -/
inductive RR : AVal → List AVal → List HE → Prop
  | nil : RR (.slice 1 [] .full) [] []
  | row (r : Nat) (l : List AVal) : l ≠ [] → RR (.ms r 1 0 l.length) l [.o r (.cells l)]
theorem RR.split {v : AVal} {xs : List AVal} {E : List HE} (h : RR v xs E) : (v = .slice 1 [] .full ∧ xs = [] ∧ E = []) ∨ ∃ r, v = .ms r 1 0 xs.length ∧ E = [.o r (.cells xs)] ∧ xs ≠ [] := by
  cases h with
  | nil => exact .inl ⟨rfl, rfl, rfl⟩
  | row r l hl => exact .inr ⟨r, rfl, rfl, hl⟩
theorem RR.row_of {v : AVal} {xs : List AVal} {E : List HE} (h : RR v xs E) (hn : xs ≠ []) : ∃ r, v = .ms r 1 0 xs.length ∧ E = [.o r (.cells xs)] := by
  rcases h.split with ⟨_, h, _⟩ | ⟨r, h1, h2, _⟩
  · exact absurd h hn
  · exact ⟨r, h1, h2⟩
theorem RR.isCell {v : AVal} {xs : List AVal} {E : List HE} (h : RR v xs E) : v.isCell = true := by cases h <;> rfl
theorem RR.cells1 {v : AVal} {xs : List AVal} {E : List HE} (h : RR v xs E) : v.cells = [v] := by cases h <;> rfl
/-- Cells that fill one place each. -/
structure Ones1 (ys : List AVal) : Prop where
  ok : ys.all (okElem 1) = true
  flat : ys.flatMap AVal.cells = ys
theorem ones_i (l : List Int) : Ones1 (l.map i64v) := ⟨by rw [List.all_eq_true]; intro x hx; obtain ⟨b, _, rfl⟩ := List.mem_map.1 hx; rfl, by
  induction l with
  | nil => rfl
  | cons b l ih => rw [List.map_cons, List.flatMap_cons, ih]; rfl⟩
theorem ones_b (l : List Bool) : Ones1 (l.map boolv) := ⟨truths_ok l, by
  induction l with
  | nil => rfl
  | cons b l ih => rw [List.map_cons, List.flatMap_cons, ih]; rfl⟩
section
variable {σb : AHeap}
theorem rr_appN {G : List HE} {τ : AHeap} (H : Hp σb G τ) {ys : List AVal} (ho : Ones1 ys) {b : Nat} (hl : ys.length * b ≤ 140737488355328) {K : AVal → AHeap → Prop}
    (hK : ∀ v' E' τ', RR v' ys E' → Hp σb (E' ++ G) τ' → K v' τ') : AAppNew τ 1 b [] .full ys K := by
  by_cases h : ys = []
  · subst h
    exact aappnew_none (by simp) (hK _ _ τ .nil H)
  · refine happnew H h hl ho.ok fun r τ' H' => ?_
    rw [ho.flat] at H'
    exact hK _ _ τ' (.row r ys h) H'
theorem rr_appM {G : List HE} {τ : AHeap} {r n : Nat} {xs : List AVal} (H : Hp σb (.o r (.cells xs) :: G) τ) (hx : xs ≠ []) (hn : n = xs.length) {ys : List AVal} (ho : Ones1 ys) {b : Nat} (hl : (xs.length + ys.length) * b ≤ 140737488355328) {K : AVal → AHeap → Prop}
    (hK : ∀ v' E' τ', RR v' (xs ++ ys) E' → Hp σb (E' ++ G) τ' → K v' τ') : AAppM τ r 1 0 n b ys K := by
  subst hn
  refine happm H (k := 0) rfl (by simp) hl ho.ok fun r2 τ' H' => ?_
  rw [ho.flat] at H'
  have := hK _ _ τ' (.row r2 (xs ++ ys) (by simp [hx])) H'
  rw [List.length_append] at this
  exact this
theorem row_put {L : List HE} {σ : AHeap} (H : Hp σb L σ) {k r off q : Nat} {xs : List AVal} {y : AVal} {K : AHeap → Prop} (hk : AtK L k (.o r (.cells xs))) (ho : off = q) (hq : q < xs.length) (hy : y.isCell = true)
    (hK : setLK L k (.o r (.cells (xs.set q y))) fun L' => ∀ τ', Hp σb L' τ' → K τ') : AStore σ r off [y] K := by
  subst ho
  refine astore (H.get hk.get) (by show _ + 1 ≤ _; omega) (by show (y.isCell && true) = true; rw [hy]; rfl) (l := xs.set off y) ?_ ((setLK_spec hK).2 _ (H.set hk.get _))
  unfold splice
  rw [List.set_eq_take_append_cons_drop, if_pos hq, List.append_assoc]; rfl
end
def widenB (B : List Int) (to : Nat) : List Int := B ++ List.replicate (to - B.length) (-1)
def widenG (G : List Bool) (to : Nat) : List Bool := G ++ List.replicate (to + 1 - G.length) false
def fillD (o : Nat) (dd : List UInt8) (B : List Int) : Nat → List Int
  | 0 => B
  | k + 1 => if ((fillD o dd B k)[o + k]?.getD 0) < 0 then (fillD o dd B k).set (o + k) (((dd[k]?.getD 0).toNat : Nat) : Int) else fillD o dd B k
theorem fillD_len (o : Nat) (dd : List UInt8) (B : List Int) : ∀ k, (fillD o dd B k).length = B.length
  | 0 => rfl
  | k + 1 => by
    unfold fillD
    split
    · rw [List.length_set, fillD_len]
    · exact fillD_len o dd B k
def edge1 (p : Pk) (G : List Bool) : List Bool := if p.off = 0 then G else if p.fi < 2 then G.set p.off.toNat true else G
def edgeN (p : Pk) (G : List Bool) : Nat → List Bool
  | 0 => G
  | k + 1 => (edgeN p G k).set (p.off.toNat + total (p.fs.take (k + 1))) true
theorem edge1_len (p : Pk) (G : List Bool) : (edge1 p G).length = G.length := by
  unfold edge1
  repeat' split
  all_goals first | rfl | exact List.length_set
theorem edgeN_len (p : Pk) (G : List Bool) : ∀ k, (edgeN p G k).length = G.length
  | 0 => rfl
  | k + 1 => by unfold edgeN; rw [List.length_set, edgeN_len]
def endP (p : Pk) : Nat := p.off.toNat + total p.fs
def edgeZ (p : Pk) (ends : Bool) (G : List Bool) : List Bool := if ends = true then G else if p.fi % 2 = 0 then G.set (endP p) true else G
def withB (d : DP) (p : Pk) : List Int := fillD p.off.toNat p.fs.flatten (widenB d.B (endP p)) (total p.fs)
def withG (d : DP) (p : Pk) (ends : Bool) : List Bool := edgeZ p ends (edgeN p (edge1 p (widenG d.G (endP p))) (p.fs.length - 1))
def withD (d : DP) (p : Pk) (ends : Bool) : DP :=
  ⟨d.sn, withB d p, if ends = true then (endP p : Int) else d.e, withG d p ends, if p.off = 0 then (d.wi || decide (2 ≤ p.fi)) else d.wi, if ends = true then (d.cu || decide (p.fi % 2 = 1)) else d.cu⟩
abbrev dpR (d : DP) (rB rG : Nat) : List AVal := [i64v d.sn, .ms rB 1 0 d.B.length, i64v d.e, .ms rG 1 0 d.G.length, boolv d.wi, boolv d.cu]
set_option maxHeartbeats 16000000 in
theorem eWithM (t : Tok) (d : DP) (p : Pk) (ends : Bool) (σ : AHeap) (hB : d.B.length ≤ 4000) (hG : d.G.length ≤ 4001) (ho : 0 ≤ p.off ∧ p.off ≤ 4000) (hfi : 0 ≤ p.fi ∧ p.fi ≤ 3) (hn : p.fs.length ≤ 24) (ht : p.off + total p.fs ≤ 4000) (hpos : 0 < total p.fs) :
    ACalls Tryz.prog i_bowlineref24_with [dpV t d, amV p, sl .none p.fs.flatten, boolv ends] σ fun v σ' => ∃ rB rG, v = .agg (dpR (withD d p ends) rB rG) ∧
      Hp σ [.o rB (.cells ((withD d p ends).B.map i64v)), .o rG (.cells ((withD d p ends).G.map boolv))] σ' := by
  obtain ⟨o, hoo⟩ : ∃ o : Nat, p.off = o := ⟨p.off.toNat, by omega⟩
  have hto : endP p = o + total p.fs := by unfold endP; rw [hoo]; rfl
  have hfl : p.fs.flatten.length = total p.fs := rfl
  refine km_bowlineref24_with rfl ?_
  have H := Hp.nil σ
  (refine wX ?_)
  refine hnew H rfl ?_
  clear H
  intro i4 τ H
  (refine wX ?_)
  refine hnew H rfl ?_
  clear H
  intro i5 τ H
  (refine wX ?_)
  refine hnew H rfl ?_
  clear H
  intro i8 τ H
  (refine wX ?_)
  (repeat (((apply zL H; (· repeat first | exact .h | apply AtK.t); (· rfl))); (refine wX ?_)))
  refine hnew H rfl ?_
  clear H
  intro i9 τ H
  (refine wX ?_)
  (repeat ((first | (apply zL H; (· repeat first | exact .h | apply AtK.t); (· rfl)) | (apply zS H; (· repeat first | exact .h | apply AtK.t); (· rfl); (conv => whnf); clear H; intro τ H)); (refine wX ?_)))
  have mv1 : ∀ {c9 : List AVal} {E : List HE} {τ : AHeap}, Hp σ (E ++ (.o i9 (.cells c9) :: .o i8 (.cells [i64v 0, .slice 1 [] .full, i64v 0, .slice 1 [] .full, boolv false, boolv false]) :: .o i5 (.cells (amV p).cells) :: .o i4 (.cells (dpC t d)) :: [])) τ → Hp σ (.o i9 (.cells c9) :: .o i8 (.cells [i64v 0, .slice 1 [] .full, i64v 0, .slice 1 [] .full, boolv false, boolv false]) :: .o i5 (.cells (amV p).cells) :: .o i4 (.cells (dpC t d)) :: E) τ := fun H => Hp.comm _ [_, _, _, _] H
  have mv2 : ∀ {c9 : List AVal} {E E2 : List HE} {τ : AHeap}, Hp σ (E2 ++ (.o i9 (.cells c9) :: .o i8 (.cells [i64v 0, .slice 1 [] .full, i64v 0, .slice 1 [] .full, boolv false, boolv false]) :: .o i5 (.cells (amV p).cells) :: .o i4 (.cells (dpC t d)) :: E)) τ → Hp σ (.o i9 (.cells c9) :: .o i8 (.cells [i64v 0, .slice 1 [] .full, i64v 0, .slice 1 [] .full, boolv false, boolv false]) :: .o i5 (.cells (amV p).cells) :: .o i4 (.cells (dpC t d)) :: (E2 ++ E)) τ := fun {c9 E E2 τ} H => Hp.mid (A := E2) (B := [_, _, _, _]) (C := E) H
  have mv3 : ∀ {c9 : List AVal} {E E2 : List HE} {τ : AHeap}, Hp σ (.o i9 (.cells c9) :: .o i8 (.cells [i64v 0, .slice 1 [] .full, i64v 0, .slice 1 [] .full, boolv false, boolv false]) :: .o i5 (.cells (amV p).cells) :: .o i4 (.cells (dpC t d)) :: (E2 ++ E)) τ → Hp σ (E2 ++ (.o i9 (.cells c9) :: .o i8 (.cells [i64v 0, .slice 1 [] .full, i64v 0, .slice 1 [] .full, boolv false, boolv false]) :: .o i5 (.cells (amV p).cells) :: .o i4 (.cells (dpC t d)) :: E)) τ := fun {c9 E E2 τ} H => Hp.mid (A := [_, _, _, _]) (B := E2) (C := E) H
  replace H : Hp σ (.o i9 (.cells [i64v d.sn, .slice 1 [] .full, i64v d.e, .slice 1 [] .full, boolv d.wi, boolv d.cu]) :: .o i8 (.cells [i64v 0, .slice 1 [] .full, i64v 0, .slice 1 [] .full, boolv false, boolv false]) :: .o i5 (.cells (amV p).cells) :: .o i4 (.cells (dpC t d)) :: []) τ := H
  apply via_loop (fun b Q => ∀ vB vG EB EG τ, RR vB (d.B.map i64v) EB → RR vG (d.G.map boolv) EG → Hp σ (.o i9 (.cells [i64v d.sn, vB, i64v d.e, vG, boolv d.wi, boolv d.cu]) :: .o i8 (.cells [i64v 0, .slice 1 [] .full, i64v 0, .slice 1 [] .full, boolv false, boolv false]) :: .o i5 (.cells (amV p).cells) :: .o i4 (.cells (dpC t d)) :: (EG ++ EB)) τ →
    setsK (Env.full 9) [(s2, sl .none p.fs.flatten), (s3, boolv ends), (s5, .ptr i5 0), (s8, .ptr i8 0), (s9, .ptr i9 0), (s10, i64v (endP p))] fun e => ALoop Tryz.prog c57m b e τ Q)
  case f =>
    intro hK
    repeat' (first
      | ((with_reducible refine And.intro ?_ ?_) <;> (refine wX ?_))
      | ((apply zL H; (· repeat first | exact .h | apply AtK.t); (· rfl)); (refine wX ?_))
      | (refine rr_appN H (ones_i d.B) (by rw [List.length_map]; omega) ?_; intro vB EB τ hvB H; replace H := mv1 H; (refine wX ?_))
      | (refine rr_appN H (ones_b d.G) (by rw [List.length_map]; omega) ?_; clear H; intro vG EG τ hvG H; replace H := mv2 H; (refine wX ?_)))
    all_goals
      rw [hvB.cells1]
      (refine wX ?_)
      refine zS H (k := 0) .h (by show (vB.isCell && true) = true; rw [hvB.isCell]; rfl) ?_
      (conv => whnf)
      clear H
      intro τ H
      (refine wX ?_)
      rw [hvG.cells1]
      (refine wX ?_)
      refine zS H (k := 0) .h (by show (vG.isCell && true) = true; rw [hvG.isCell]; rfl) ?_
      (conv => whnf)
      clear H
      intro τ H
      (refine wX ?_)
      (repeat ((first | refine zI (by omega) ?_ | (apply zL H; (· repeat first | exact .h | apply AtK.t); (· rfl)) | rw [List.length_map]); (refine wX ?_)))
      rw [show (p.off + (p.fs.flatten.length : Int)) = (endP p : Int) by omega]
      refine aloop_from ?_ (hK () vB vG EB EG τ hvB hvG H)
      exact elX
  intro vB vG EB EG τ1 hvB hvG H1
  (conv => whnf)
  clear H
  obtain ⟨n, hn0⟩ : ∃ n, n = endP p := ⟨_, rfl⟩
  rw [← hn0]
  rw [← hn0] at hto
  refine aloop (α := Nat × AVal × List HE × AHeap) (fun y => []) (fun y => y.2.2.2) (fun y => y.1 ≤ n - d.B.length ∧ RR y.2.1 ((d.B ++ List.replicate y.1 (-1)).map i64v) y.2.2.1 ∧
      Hp σ (.o i9 (.cells [i64v d.sn, y.2.1, i64v d.e, vG, boolv d.wi, boolv d.cu]) :: .o i8 (.cells [i64v 0, .slice 1 [] .full, i64v 0, .slice 1 [] .full, boolv false, boolv false]) :: .o i5 (.cells (amV p).cells) :: .o i4 (.cells (dpC t d)) :: (y.2.2.1 ++ EG)) y.2.2.2) (fun y => n - d.B.length - y.1)
    (0, vB, EB, τ1) ⟨Nat.zero_le _, by rw [show List.replicate 0 (-1 : Int) = [] from rfl, List.append_nil]; exact hvB, Hp.mid2 (A := [_, _, _, _]) (B := EG) (C := EB) (D := []) (by rw [List.append_nil]; exact H1) |> fun h => by rw [List.append_nil] at h; exact h⟩ (Sub.refl _) ?_ ?_
  · (refine wX ?_)
    exact elX
  clear H1 hvB vB EB τ1
  rintro ⟨k, vB, EB, τ⟩ ⟨hk, hvB, H⟩
  dsimp only at hk hvB H ⊢
  have hxl : ((d.B ++ List.replicate k (-1)).map i64v).length = d.B.length + k := by simp
  obtain ⟨xs, hxs⟩ : ∃ xs, xs = (d.B ++ List.replicate k (-1)).map i64v := ⟨_, rfl⟩
  rw [← hxs] at hvB hxl
  (refine wX ?_)
  (repeat (((apply zL H; (· repeat first | exact .h | apply AtK.t); (· rfl))); (refine wX ?_)))
  have hnext : (d.B ++ List.replicate (k + 1) (-1)).map i64v = xs ++ [-1].map i64v := by rw [hxs, ← List.map_append, List.append_assoc, List.replicate_succ']
  by_cases hlt : d.B.length + k < n
  case pos =>
    rcases hvB.split with ⟨rfl, hx0, rfl⟩ | ⟨r, rfl, rfl, hne⟩
    · (refine wX ?_)
      have h0 : d.B.length + k = 0 := by rw [← hxl, hx0]; rfl
      rw [show (([] : List AVal).length : Int) = 0 from rfl]
      (repeat ((first | refine zY (by omega) ?_ | (apply zL H; (· repeat first | exact .h | apply AtK.t); (· rfl))); (refine wX ?_)))
      refine rr_appN (b := 8) (ys := [i64v (-1)]) (mv3 H) (ones_i [-1]) (by simp) ?_
      clear H
      intro v2 E2 τ hv2 H
      replace H := mv2 H
      (refine wX ?_)
      skip
      rw [hv2.cells1]
      (refine wX ?_)
      refine zS H (k := 0) .h (by show (v2.isCell && true) = true; rw [hv2.isCell]; rfl) ?_
      (conv => whnf)
      clear H
      intro τ H
      (refine wX ?_)
      skip
      refine ⟨(k + 1, v2, E2, τ), ⟨by dsimp only; omega, by dsimp only; rw [hnext, hx0]; exact hv2, H⟩, by dsimp only; omega, Sub.refl _, ?_⟩
      (refine wX ?_)
      exact elX
    · (refine wX ?_)
      (repeat ((first | refine zY (by omega) ?_ | (apply zL H; (· repeat first | exact .h | apply AtK.t); (· rfl))); (refine wX ?_)))
      refine rr_appM (b := 8) (ys := [i64v (-1)]) (mv3 (E2 := [.o r (.cells xs)]) H) hne rfl (ones_i [-1]) (by rw [hxl]; simp; omega) ?_
      clear H
      intro v2 E2 τ hv2 H
      replace H := mv2 H
      (refine wX ?_)
      skip
      rw [hv2.cells1]
      (refine wX ?_)
      refine zS H (k := 0) .h (by show (v2.isCell && true) = true; rw [hv2.isCell]; rfl) ?_
      (conv => whnf)
      clear H
      intro τ H
      (refine wX ?_)
      skip
      refine ⟨(k + 1, v2, E2, τ), ⟨by dsimp only; omega, by dsimp only; rw [hnext]; exact hv2, H⟩, by dsimp only; omega, Sub.refl _, ?_⟩
      (refine wX ?_)
      exact elX
  have hk2 : k = n - d.B.length := by omega
  rcases hvB.split with ⟨rfl, hx0, rfl⟩ | ⟨rB, rfl, rfl, hne⟩
  · rw [hx0] at hxl; simp at hxl; omega
  obtain ⟨B1, hB1⟩ : ∃ B1, B1 = widenB d.B n := ⟨_, rfl⟩
  have hBw : xs = B1.map i64v := by rw [hxs, hk2, hB1]; rfl
  have hB1l : B1.length = d.B.length + k := by rw [← hxl, hBw, List.length_map]
  clear hxs hnext hxl hvB hne
  subst hBw
  rw [List.length_map] at H
  replace H : Hp σ (.o i9 (.cells [i64v d.sn, .ms rB 1 0 B1.length, i64v d.e, vG, boolv d.wi, boolv d.cu]) :: .o i8 (.cells [i64v 0, .slice 1 [] .full, i64v 0, .slice 1 [] .full, boolv false, boolv false]) :: .o i5 (.cells (amV p).cells) :: .o i4 (.cells (dpC t d)) :: (EG ++ [.o rB (.cells (B1.map i64v))])) τ := by
    have := Hp.mid2 (A := [.o i9 (.cells [i64v d.sn, .ms rB 1 0 B1.length, i64v d.e, vG, boolv d.wi, boolv d.cu]), .o i8 (.cells [i64v 0, .slice 1 [] .full, i64v 0, .slice 1 [] .full, boolv false, boolv false]), .o i5 (.cells (amV p).cells), .o i4 (.cells (dpC t d))]) (B := [.o rB (.cells (B1.map i64v))]) (C := EG) (D := []) (by rw [List.append_nil]; exact H)
    exact this
  (refine wX ?_)
  rw [List.length_map]
  (repeat ((refine zN (by omega) ?_); (refine wX ?_)))
  refine aloop (α := Nat × AVal × List HE × AHeap) (fun y => []) (fun y => y.2.2.2) (fun y => y.1 ≤ n + 1 - d.G.length ∧ RR y.2.1 ((d.G ++ List.replicate y.1 false).map boolv) y.2.2.1 ∧
      Hp σ (.o i9 (.cells [i64v d.sn, .ms rB 1 0 B1.length, i64v d.e, y.2.1, boolv d.wi, boolv d.cu]) :: .o i8 (.cells [i64v 0, .slice 1 [] .full, i64v 0, .slice 1 [] .full, boolv false, boolv false]) :: .o i5 (.cells (amV p).cells) :: .o i4 (.cells (dpC t d)) :: (y.2.2.1 ++ [.o rB (.cells (B1.map i64v))])) y.2.2.2) (fun y => n + 1 - d.G.length - y.1)
    (0, vG, EG, τ) ⟨Nat.zero_le _, by rw [show List.replicate 0 false = [] from rfl, List.append_nil]; exact hvG, H⟩ (Sub.refl _) ?_ ?_
  · (refine wX ?_)
    exact elX
  clear H hvG vG EG τ
  rintro ⟨j, vG, EG, τ⟩ ⟨hj, hvG, H⟩
  dsimp only at hj hvG H ⊢
  have hxl : ((d.G ++ List.replicate j false).map boolv).length = d.G.length + j := by simp
  obtain ⟨xs, hxs⟩ : ∃ xs, xs = (d.G ++ List.replicate j false).map boolv := ⟨_, rfl⟩
  rw [← hxs] at hvG hxl
  (refine wX ?_)
  (repeat (((apply zL H; (· repeat first | exact .h | apply AtK.t); (· rfl))); (refine wX ?_)))
  have hnext : (d.G ++ List.replicate (j + 1) false).map boolv = xs ++ [false].map boolv := by rw [hxs, ← List.map_append, List.append_assoc, List.replicate_succ']
  by_cases hlt2 : d.G.length + j ≤ n
  case pos =>
    rcases hvG.split with ⟨rfl, hx0, rfl⟩ | ⟨r, rfl, rfl, hne⟩
    · (refine wX ?_)
      have h0 : d.G.length + j = 0 := by rw [← hxl, hx0]; rfl
      rw [show (([] : List AVal).length : Int) = 0 from rfl]
      (repeat ((first | refine zY (by omega) ?_ | (apply zL H; (· repeat first | exact .h | apply AtK.t); (· rfl))); (refine wX ?_)))
      refine rr_appN (b := 1) (ys := [boolv false]) (mv3 H) (ones_b [false]) (by simp) ?_
      clear H
      intro v2 E2 τ hv2 H
      replace H := mv2 H
      (refine wX ?_)
      skip
      rw [hv2.cells1]
      (refine wX ?_)
      refine zS H (k := 0) .h (by show (v2.isCell && true) = true; rw [hv2.isCell]; rfl) ?_
      (conv => whnf)
      clear H
      intro τ H
      (refine wX ?_)
      skip
      refine ⟨(j + 1, v2, E2, τ), ⟨by dsimp only; omega, by dsimp only; rw [hnext, hx0]; exact hv2, H⟩, by dsimp only; omega, Sub.refl _, ?_⟩
      (refine wX ?_)
      exact elX
    · (refine wX ?_)
      (repeat ((first | refine zY (by omega) ?_ | (apply zL H; (· repeat first | exact .h | apply AtK.t); (· rfl))); (refine wX ?_)))
      refine rr_appM (b := 1) (ys := [boolv false]) (mv3 (E2 := [.o r (.cells xs)]) H) hne rfl (ones_b [false]) (by rw [hxl]; simp; omega) ?_
      clear H
      intro v2 E2 τ hv2 H
      replace H := mv2 H
      (refine wX ?_)
      skip
      rw [hv2.cells1]
      (refine wX ?_)
      refine zS H (k := 0) .h (by show (v2.isCell && true) = true; rw [hv2.isCell]; rfl) ?_
      (conv => whnf)
      clear H
      intro τ H
      (refine wX ?_)
      skip
      refine ⟨(j + 1, v2, E2, τ), ⟨by dsimp only; omega, by dsimp only; rw [hnext]; exact hv2, H⟩, by dsimp only; omega, Sub.refl _, ?_⟩
      (refine wX ?_)
      exact elX
  have hj2 : j = n + 1 - d.G.length := by omega
  rcases hvG.split with ⟨rfl, hx0, rfl⟩ | ⟨rG, rfl, rfl, hne⟩
  · rw [hx0] at hxl; simp at hxl; omega
  obtain ⟨G1, hG1⟩ : ∃ G1, G1 = widenG d.G n := ⟨_, rfl⟩
  have hGw : xs = G1.map boolv := by rw [hxs, hj2, hG1]; rfl
  have hG1l : G1.length = d.G.length + j := by rw [← hxl, hGw, List.length_map]
  clear hxs hnext hxl hvG hne
  subst hGw
  rw [List.length_map] at H
  replace H : Hp σ (.o i9 (.cells [i64v d.sn, .ms rB 1 0 B1.length, i64v d.e, .ms rG 1 0 G1.length, boolv d.wi, boolv d.cu]) :: .o i8 (.cells [i64v 0, .slice 1 [] .full, i64v 0, .slice 1 [] .full, boolv false, boolv false]) :: .o i5 (.cells (amV p).cells) :: .o i4 (.cells (dpC t d)) :: .o rG (.cells (G1.map boolv)) :: .o rB (.cells (B1.map i64v)) :: []) τ := H
  (refine wX ?_)
  rw [List.length_map]
  (repeat ((refine zN (by omega) ?_); (refine wX ?_)))
  refine aloop (α := Nat × AHeap) (fun y => [(s11, i64v y.1)]) (fun y => y.2) (fun y => y.1 ≤ total p.fs ∧
      Hp σ (.o i9 (.cells [i64v d.sn, .ms rB 1 0 B1.length, i64v d.e, .ms rG 1 0 G1.length, boolv d.wi, boolv d.cu]) :: .o i8 (.cells [i64v 0, .slice 1 [] .full, i64v 0, .slice 1 [] .full, boolv false, boolv false]) :: .o i5 (.cells (amV p).cells) :: .o i4 (.cells (dpC t d)) :: .o rG (.cells (G1.map boolv)) :: .o rB (.cells ((fillD o p.fs.flatten B1 y.1).map i64v)) :: []) y.2) (fun y => total p.fs - y.1)
    (0, τ) ⟨Nat.zero_le _, H⟩ (Sub.refl _) ?_ ?_
  · (refine wX ?_)
    exact elX
  clear H τ
  rintro ⟨i, τ⟩ ⟨hi, H⟩
  dsimp only at hi H ⊢
  have hCl := fillD_len o p.fs.flatten B1 i
  (refine wX ?_)
  (repeat ((rw [List.length_map]); (refine wX ?_)))
  by_cases hit : i < total p.fs
  case pos =>
    have hoi : o + i < (fillD o p.fs.flatten B1 i).length := by omega
    have hid : i < p.fs.flatten.length := by omega
    have hnx : fillD o p.fs.flatten B1 (i + 1) = if (fillD o p.fs.flatten B1 i)[o + i] < 0 then (fillD o p.fs.flatten B1 i).set (o + i) ((p.fs.flatten[i].toNat : Nat) : Int) else fillD o p.fs.flatten B1 i := by
      rw [fillD, List.getElem?_eq_getElem hoi, List.getElem?_eq_getElem hid]; rfl
    generalize fillD o p.fs.flatten B1 i = C at *
    have hidx : 0 + (p.off + (i : Int)).toNat * 1 = o + i := by omega
    (repeat ((first | refine zI (by omega) ?_ | refine zY (by omega) ?_ | refine zX (by omega) (by omega) ?_ | (apply zL H; (· repeat first | exact .h | apply AtK.t); (· rfl))); (refine wX ?_)))
    refine hload H (k := 5) rfl (x := i64v C[o + i]) (by rw [hidx, List.getElem?_map, List.getElem?_eq_getElem hoi]; rfl) ?_
    (refine wX ?_)
    by_cases hneg : C[o + i] < 0
    · rw [if_pos hneg] at hnx
      (repeat ((first | refine zI (by omega) ?_ | refine zY (by omega) ?_ | (apply zL H; (· repeat first | exact .h | apply AtK.t); (· rfl))); (refine wX ?_)))
      have hbt : p.fs.flatten[i].toNat < 256 := p.fs.flatten[i].toNat_lt
      refine aget (by omega) (x := byteV p.fs.flatten[i]) (by rw [Int.toNat_natCast, List.getElem?_map, List.getElem?_eq_getElem hid]; rfl) ?_
      (refine wX ?_)
      refine acell rfl ?_
      (refine wX ?_)
      (repeat ((first | refine zI (by omega) ?_ | refine zX (by omega) (by omega) ?_); (refine wX ?_)))
      refine row_put H (k := 5) (q := o + i) (.t (.t (.t (.t (.t .h))))) hidx (by rw [List.length_map]; omega) rfl ?_
      (conv => whnf)
      clear H
      intro τ H
      (refine wX ?_)
      (repeat ((refine zI (by omega) ?_); (refine wX ?_)))
      rw [show (C.map i64v).set (o + i) (.v (.int .i64 ((p.fs.flatten[i].toNat : Nat) : Int))) = (C.set (o + i) ((p.fs.flatten[i].toNat : Nat) : Int)).map i64v from List.map_set.symm] at H
      refine ⟨(i + 1, τ), ⟨hit, by dsimp only; rw [hnx]; exact H⟩, by dsimp only; omega, Sub.refl _, ?_⟩
      (refine wX ?_)
      exact elX
    · rw [if_neg hneg] at hnx
      (repeat ((first | refine zI (by omega) ?_ | refine zN (by omega) ?_); (refine wX ?_)))
      refine ⟨(i + 1, τ), ⟨hit, by dsimp only; rw [hnx]; exact H⟩, by dsimp only; omega, Sub.refl _, ?_⟩
      (refine wX ?_)
      exact elX
  obtain rfl : i = total p.fs := by omega
  have hBe : (withD d p ends).B = fillD o p.fs.flatten B1 (total p.fs) := by
    show fillD p.off.toNat p.fs.flatten (widenB d.B (endP p)) (total p.fs) = _
    rw [← hn0, ← hB1, hoo]; rfl
  rw [← hBe] at H hCl
  have hGe : (withD d p ends).G = edgeZ p ends (edgeN p (edge1 p G1) (p.fs.length - 1)) := by
    show edgeZ p ends (edgeN p (edge1 p (widenG d.G (endP p))) (p.fs.length - 1)) = _
    rw [← hn0, ← hG1]
  obtain ⟨wi', hwi'⟩ : ∃ wi', wi' = if p.off = 0 then (d.wi || decide (2 ≤ p.fi)) else d.wi := ⟨_, rfl⟩
  (repeat ((first | refine zN (by omega) ?_ | (apply zL H; (· repeat first | exact .h | apply AtK.t); (· rfl))); (refine wX ?_)))
  apply via_loop (fun b Q => ∀ τ, Hp σ (.o i9 (.cells [i64v d.sn, .ms rB 1 0 B1.length, i64v d.e, .ms rG 1 0 G1.length, boolv wi', boolv d.cu]) :: .o i8 (.cells [i64v 0, .slice 1 [] .full, i64v 0, .slice 1 [] .full, boolv false, boolv false]) :: .o i5 (.cells (amV p).cells) :: .o i4 (.cells (dpC t d)) :: .o rG (.cells ((edge1 p G1).map boolv)) :: .o rB (.cells ((withD d p ends).B.map i64v)) :: []) τ →
    setsK (Env.full 9) [(s3, boolv ends), (s5, .ptr i5 0), (s8, .ptr i8 0), (s9, .ptr i9 0), (s10, i64v n), (s12, i64v p.off), (s13, i64v 0)] fun e => ALoop Tryz.prog c57m b e τ Q)
  case f =>
    intro hK
    have H := H
    by_cases h0 : p.off = 0
    · have e1 : edge1 p G1 = G1 := by unfold edge1; rw [if_pos h0]
      rw [if_pos h0] at hwi'
      (refine wX ?_)
      (repeat ((first | refine zY (by omega) ?_ | (apply zL H; (· repeat first | exact .h | apply AtK.t); (· rfl))); (refine wX ?_)))
      rcases (show d.wi = false ∨ d.wi = true by cases d.wi <;> simp) with hw | hw
      · rw [hw, Bool.false_or] at hwi'
        rw [hw]
        (refine wX ?_)
        (repeat ((first | (apply zL H; (· repeat first | exact .h | apply AtK.t); (· rfl)) | (apply zS H; (· repeat first | exact .h | apply AtK.t); (· rfl); (conv => whnf); clear H; intro τ H)); (refine wX ?_)))
        refine aloop_from ?_ (hK () τ (by rw [hwi', e1, show decide (2 ≤ p.fi) = @decide (2 ≤ p.fi) (leDec 2 p.fi) from dec_congr Iff.rfl]; exact H))
        exact elX
      · rw [hw, Bool.true_or] at hwi'
        rw [hw]
        (refine wX ?_)
        (repeat ((first | (apply zL H; (· repeat first | exact .h | apply AtK.t); (· rfl)) | (apply zS H; (· repeat first | exact .h | apply AtK.t); (· rfl); (conv => whnf); clear H; intro τ H)); (refine wX ?_)))
        refine aloop_from ?_ (hK () τ (by rw [hwi', e1]; exact H))
        exact elX
    · rw [if_neg h0] at hwi'
      (refine wX ?_)
      (repeat ((first | refine zN (by omega) ?_ | (apply zL H; (· repeat first | exact .h | apply AtK.t); (· rfl))); (refine wX ?_)))
      by_cases h2 : p.fi < 2
      · have e1 : edge1 p G1 = G1.set o true := by unfold edge1; rw [if_neg h0, if_pos h2, hoo]; rfl
        (repeat ((first | refine zY (by omega) ?_ | refine zX (by omega) (by omega) ?_ | (apply zL H; (· repeat first | exact .h | apply AtK.t); (· rfl))); (refine wX ?_)))
        refine row_put H (k := 4) (q := o) (.t (.t (.t (.t .h)))) (by omega) (by rw [List.length_map]; omega) rfl ?_
        (conv => whnf)
        clear H
        intro τ H
        rw [show (G1.map boolv).set o (.v (.bool true)) = (G1.set o true).map boolv from List.map_set.symm, ← e1] at H
        (refine wX ?_)
        (repeat (((apply zL H; (· repeat first | exact .h | apply AtK.t); (· rfl))); (refine wX ?_)))
        refine aloop_from ?_ (hK () τ (by rw [hwi']; exact H))
        exact elX
      · have e1 : edge1 p G1 = G1 := by unfold edge1; rw [if_neg h0, if_neg h2]
        (repeat ((first | refine zN (by omega) ?_ | (apply zL H; (· repeat first | exact .h | apply AtK.t); (· rfl))); (refine wX ?_)))
        refine aloop_from ?_ (hK () τ (by rw [hwi', e1]; exact H))
        exact elX
  clear H τ
  intro τ H
  (conv => whnf)
  have hnf : 0 < p.fs.length := by
    rcases Nat.eq_zero_or_pos p.fs.length with h | h
    · rw [List.length_eq_zero_iff.1 h] at hpos; exact absurd hpos (by decide)
    · exact h
  have hG2l := edge1_len p G1
  refine aloop (α := Nat × AHeap) (fun y => [(s12, i64v (p.off + (total (p.fs.take y.1) : Int))), (s13, i64v y.1)]) (fun y => y.2) (fun y => y.1 ≤ p.fs.length - 1 ∧
    Hp σ (.o i9 (.cells [i64v d.sn, .ms rB 1 0 B1.length, i64v d.e, .ms rG 1 0 G1.length, boolv wi', boolv d.cu]) :: .o i8 (.cells [i64v 0, .slice 1 [] .full, i64v 0, .slice 1 [] .full, boolv false, boolv false]) :: .o i5 (.cells (amV p).cells) :: .o i4 (.cells (dpC t d)) :: .o rG (.cells ((edgeN p (edge1 p G1) y.1).map boolv)) :: .o rB (.cells ((withD d p ends).B.map i64v)) :: []) y.2) (fun y => p.fs.length - 1 - y.1)
    (0, τ) ⟨Nat.zero_le _, H⟩ (Sub.refl _) ?_ ?_
  · rw [show p.off + ((total (p.fs.take 0) : Nat) : Int) = p.off from Int.add_zero _]
    (refine wX ?_)
    exact elX
  clear H τ
  rintro ⟨i, τ⟩ ⟨hi, H⟩
  dsimp only at hi H ⊢
  have hG3l := edgeN_len p (edge1 p G1) i
  (refine wX ?_)
  (repeat ((first | refine zI (by omega) ?_ | (apply zL H; (· repeat first | exact .h | apply AtK.t); (· rfl)) | rw [List.length_map]); (refine wX ?_)))
  by_cases hlt3 : i + 1 < p.fs.length
  case pos =>
    have hts := total_take_succ p.fs i (by omega)
    have htl := total_take_le p.fs (i + 1)
    have hil : i < p.fs.length := by omega
    (repeat ((first | refine zY (by omega) ?_ | (apply zL H; (· repeat first | exact .h | apply AtK.t); (· rfl))); (refine wX ?_)))
    refine aget (by omega) (get_lists hil) ?_
    (refine wX ?_)
    (repeat ((first | refine zI (by omega) ?_ | refine zX (by omega) (by omega) ?_ | refine zR rfl ?_ | (apply zL H; (· repeat first | exact .h | apply AtK.t); (· rfl)) | rw [List.length_map]); (refine wX ?_)))
    refine row_put H (k := 4) (q := o + total (p.fs.take (i + 1))) (.t (.t (.t (.t .h)))) (by omega) (by rw [List.length_map]; omega) rfl ?_
    (conv => whnf)
    clear H
    intro τ H
    rw [show ((edgeN p (edge1 p G1) i).map boolv).set (o + total (p.fs.take (i + 1))) (.v (.bool true)) = (edgeN p (edge1 p G1) (i + 1)).map boolv by rw [edgeN, List.map_set, hoo]; rfl] at H
    (refine wX ?_)
    (repeat ((refine zI (by omega) ?_); (refine wX ?_)))
    refine ⟨(i + 1, τ), ⟨by dsimp only; omega, H⟩, by dsimp only; omega, Sub.refl _, ?_⟩
    rw [show p.off + ((total (p.fs.take (i + 1)) : Nat) : Int) = p.off + ((total (p.fs.take i) : Nat) : Int) + (p.fs[i].length : Int) by omega]
    (refine wX ?_)
    exact elX
  obtain rfl : i = p.fs.length - 1 := by omega
  have hBl : (withD d p ends).B.length = B1.length := hCl
  obtain ⟨G3, hG3⟩ : ∃ G3, G3 = edgeN p (edge1 p G1) (p.fs.length - 1) := ⟨_, rfl⟩
  rw [← hG3] at H hG3l hGe
  have hsn : (withD d p ends).sn = d.sn := rfl
  have hwi2 : (withD d p ends).wi = wi' := hwi'.symm
  have hfin : ∀ {e' : Int} {cu' : Bool} {τ : AHeap} {c9 : List AVal}, (withD d p ends).e = e' → (withD d p ends).cu = cu' → Hp σ (.o i9 (.cells c9) :: .o i8 (.cells [i64v d.sn, .ms rB 1 0 B1.length, i64v e', .ms rG 1 0 G1.length, boolv wi', boolv cu']) :: .o i5 (.cells (amV p).cells) :: .o i4 (.cells (dpC t d)) :: .o rG (.cells ((edgeZ p ends G3).map boolv)) :: .o rB (.cells ((withD d p ends).B.map i64v)) :: []) τ →
      ∃ rB' rG', AVal.agg [i64v d.sn, .ms rB 1 0 B1.length, i64v e', .ms rG 1 0 G1.length, boolv wi', boolv cu'] = .agg (dpR (withD d p ends) rB' rG') ∧ Hp σ [.o rB' (.cells ((withD d p ends).B.map i64v)), .o rG' (.cells ((withD d p ends).G.map boolv))] τ := by
    intro e' cu' τ c9 h1 h2 H
    refine ⟨rB, rG, ?_, ?_⟩
    · unfold dpR
      have hl : (edgeZ p ends G3).length = G1.length := by
        unfold edgeZ
        repeat' split
        all_goals first | (rw [List.length_set]; omega) | omega
      rw [hsn, h1, h2, hwi2, hBl, hGe, hl]
    · rw [hGe]
      exact Hp.comm [_] [_] H.tail.tail.tail.tail
  (repeat ((refine zN (by omega) ?_); (refine wX ?_)))
  cases ends
  · have h1 : (withD d p false).e = d.e := rfl
    have h2 : (withD d p false).cu = d.cu := rfl
    (refine wX ?_)
    (repeat ((first | refine zE (by omega) (by omega) ?_ | (apply zL H; (· repeat first | exact .h | apply AtK.t); (· rfl))); (refine wX ?_)))
    by_cases h3 : p.fi % 2 = 0
    · have e1 : edgeZ p false G3 = G3.set n true := by unfold edgeZ; rw [if_neg (by simp), if_pos h3, hn0]
      rw [e1] at hfin
      (repeat ((first | refine zY (by omega) ?_ | refine zX (by omega) (by omega) ?_ | (apply zL H; (· repeat first | exact .h | apply AtK.t); (· rfl))); (refine wX ?_)))
      refine row_put H (k := 4) (q := n) (.t (.t (.t (.t .h)))) (by omega) (by rw [List.length_map]; omega) rfl ?_
      (conv => whnf)
      clear H
      intro τ H
      rw [show (G3.map boolv).set n (.v (.bool true)) = (G3.set n true).map boolv from List.map_set.symm] at H
      (refine wX ?_)
      (repeat ((first | (apply zA H; (· repeat first | exact .h | apply AtK.t)) | (apply zS H; (· repeat first | exact .h | apply AtK.t); (· rfl); (conv => whnf); clear H; intro τ H)); (refine wX ?_)))
      exact aret (VLe.refl _) (Sub.refl _) (hfin h1 h2 H)
    · have e1 : edgeZ p false G3 = G3 := by unfold edgeZ; rw [if_neg (by simp), if_neg h3]
      rw [e1] at hfin
      (repeat ((first | refine zN (by omega) ?_ | (apply zA H; (· repeat first | exact .h | apply AtK.t)) | (apply zS H; (· repeat first | exact .h | apply AtK.t); (· rfl); (conv => whnf); clear H; intro τ H)); (refine wX ?_)))
      exact aret (VLe.refl _) (Sub.refl _) (hfin h1 h2 H)
  · have h1 : (withD d p true).e = n := by show ((endP p : Nat) : Int) = _; rw [hn0]
    have h2 : (withD d p true).cu = (d.cu || decide (p.fi % 2 = 1)) := rfl
    have e1 : edgeZ p true G3 = G3 := by unfold edgeZ; rw [if_pos rfl]
    rw [e1] at hfin
    (refine wX ?_)
    (repeat ((first | (apply zL H; (· repeat first | exact .h | apply AtK.t); (· rfl)) | (apply zS H; (· repeat first | exact .h | apply AtK.t); (· rfl); (conv => whnf); clear H; intro τ H)); (refine wX ?_)))
    rcases (show d.cu = false ∨ d.cu = true by cases d.cu <;> simp) with hw | hw
    · rw [hw, Bool.false_or] at h2
      rw [hw]
      (refine wX ?_)
      (repeat ((first | refine zE (by omega) (by omega) ?_ | (apply zL H; (· repeat first | exact .h | apply AtK.t); (· rfl)) | (apply zA H; (· repeat first | exact .h | apply AtK.t)) | (apply zS H; (· repeat first | exact .h | apply AtK.t); (· rfl); (conv => whnf); clear H; intro τ H)); (refine wX ?_)))
      exact aret (VLe.refl _) (Sub.refl _) (hfin h1 h2 H)
    · rw [hw, Bool.true_or] at h2
      rw [hw]
      (refine wX ?_)
      (repeat ((first | (apply zA H; (· repeat first | exact .h | apply AtK.t)) | (apply zS H; (· repeat first | exact .h | apply AtK.t); (· rfl); (conv => whnf); clear H; intro τ H)); (refine wX ?_)))
      exact aret (VLe.refl _) (Sub.refl _) (hfin h1 h2 H)
end Go.Proofs.YtgbpjbpdpgbngaaGreat
/-
  A row that was stored into, in something that a call gives back, becomes one that is not.
-/
namespace Go.Proofs.YtgbpjbpdpgbngaaGreat
open Go Go.Am

/-- A call that gives something that holds a row of its own. -/
theorem acall_freezeA {P : Program} {f : FuncId} {args : List AVal} {σ : AHeap} {Q Q' : AVal → AHeap → Prop} (h : ACalls P f args σ Q)
    (k : ∀ v σ', Q v σ' → Q' v σ' ∨ ∃ r s n xs v', σ' r = some (.cells (xs.flatMap AVal.cells)) ∧ xs.length = n ∧ (∀ x ∈ xs, x.cells.length = s) ∧ (∀ κ u, (∀ z, RepV κ (.ms r s 0 n) z → RepV κ (.slice s xs .none) z) → RepV κ v u → RepV κ v' u) ∧ Q' v' (del σ' r)) : ACalls P f args σ Q' := by
  rw [ACalls_def] at h ⊢
  intro κ w cargs h1 h2
  refine (h κ w cargs h1 h2).mono fun e w' ⟨v, κ', σ', x, g1, g2, g3, g4, g5⟩ => ?_
  rcases k _ _ g5 with q | ⟨r, s, n, xs, v', q2, q3, q4, q5, q6⟩
  · exact ⟨v, κ', σ', x, g1, g2, g3, g4, q⟩
  · obtain ⟨b, c, e', vs0, us, k1, _⟩ := g3.cells r _ q2
    obtain ⟨κ2, vs, r1, r2, r3, r4⟩ := g3.still q2 k1
    refine ⟨v, κ2, _, v', g1, g2.trans r1, r2, q5 κ2 v (fun z hz => ?_) (g4.mono r1), q6⟩
    cases hz with
    | ms p1 p2 p3 p4 =>
      rw [r1.obj _ _ k1] at p1
      cases p1
      exact .slice (vs := vs) q3 p3 q4 (r3.mono r1) (fun i v k => by rw [Nat.zero_add]; exact r4 i v k) trivial
end Go.Proofs.YtgbpjbpdpgbngaaGreat
/-
  What came in parts, the document's: what is put in, and dropped.
-/
namespace Go.Proofs.YtgbpjbpdpgbngaaGreat
set_option maxRecDepth 20000
open Go Go.Am

theorem agg_map1 {κ : Ghost} {a b b' c d e f : AVal} {u : Value} (hz : ∀ q, RepV κ b q → RepV κ b' q) (h : RepV κ (.agg [a, b, c, d, e, f]) u) : RepV κ (.agg [a, b', c, d, e, f]) u := by
  cases h with
  | agg k => cases k with
    | cons k1 k => cases k with
      | cons k2 k => exact .agg (.cons k1 (.cons (hz _ k2) k))
theorem agg_map3 {κ : Ghost} {a b c d d' e f : AVal} {u : Value} (hz : ∀ q, RepV κ d q → RepV κ d' q) (h : RepV κ (.agg [a, b, c, d, e, f]) u) : RepV κ (.agg [a, b, c, d', e, f]) u := by
  cases h with
  | agg k => cases k with
    | cons k1 k => cases k with
      | cons k2 k => cases k with
        | cons k3 k => cases k with
          | cons k4 k => exact .agg (.cons k1 (.cons k2 (.cons k3 (.cons (hz _ k4) k))))
theorem eWith (t : Tok) (d : DP) (p : Pk) (ends : Bool) (σ : AHeap) (hB : d.B.length ≤ 4000) (hG : d.G.length ≤ 4001) (ho : 0 ≤ p.off ∧ p.off ≤ 4000) (hfi : 0 ≤ p.fi ∧ p.fi ≤ 3) (hn : p.fs.length ≤ 24) (ht : p.off + total p.fs ≤ 4000) (hpos : 0 < total p.fs) :
    ACalls Tryz.prog i_bowlineref24_with [dpV t d, amV p, sl .none p.fs.flatten, boolv ends] σ fun v σ' => v = dpV .none (withD d p ends) ∧ Hp σ [] σ' := by
  have h1 := acall_freezeA (Q' := fun v σ' => ∃ rG, v = .agg [i64v (withD d p ends).sn, ints .none (withD d p ends).B, i64v (withD d p ends).e, .ms rG 1 0 (withD d p ends).G.length, boolv (withD d p ends).wi, boolv (withD d p ends).cu] ∧ Hp σ [.o rG (.cells ((withD d p ends).G.map boolv))] σ') (eWithM t d p ends σ hB hG ho hfi hn ht hpos) (by
    rintro v σ' ⟨rB, rG, rfl, H⟩
    refine .inr ⟨rB, 1, _, (withD d p ends).B.map i64v, _, by rw [(ones_i _).flat]; exact H.get (k := 0) rfl, List.length_map _, fun x hx => by obtain ⟨y, _, rfl⟩ := List.mem_map.1 hx; rfl, fun κ u hz h => agg_map1 hz h, rG, rfl, H.del_head⟩)
  refine acall_freezeA h1 ?_
  rintro v σ' ⟨rG, rfl, H⟩
  exact .inr ⟨rG, 1, _, (withD d p ends).G.map boolv, _, by rw [(ones_b _).flat]; exact H.get (k := 0) rfl, List.length_map _, fun x hx => by obtain ⟨y, _, rfl⟩ := List.mem_map.1 hx; rfl, fun κ u hz h => agg_map3 hz h, rfl, H.del_head⟩
def freshD (sn : Int) : DP := ⟨sn, [], -1, [], false, false⟩
def pieceD (l : List DP) (sn : Int) : DP := match l.find? fun d => d.sn == sn with
  | none => freshD sn
  | some d => d
def endsP (p : Pk) : Bool := !p.part || p.last
def putDc (l : List DP) (p : Pk) : Int :=
  if rightB p = false then 1 else
  if ((0 ≤ (pieceD l p.sn).e ∧ ((endP p : Int) > (pieceD l p.sn).e ∨ (endsP p = true ∧ (endP p : Int) ≠ (pieceD l p.sn).e))) ∨ (endsP p = true ∧ topT (thereL (pieceD l p.sn).B) (pieceD l p.sn).B.length > endP p)) then 3 else
  if ((cntT (thereL (pieceD l p.sn).B) (p.off, (endP p : Int)) : Nat) : Int) = total p.fs then 12 else
  if (runT (thereL (withB (pieceD l p.sn) p)) true (withB (pieceD l p.sn) p).length).length > 2048 then 5 else 0
theorem split_atD (l : List DP) (n : Int) : ∃ A B, l = A ++ B ∧ (∀ d ∈ A, d.sn < n) ∧ (∀ d B', B = d :: B' → ¬ d.sn < n) := by
  induction l with
  | nil => exact ⟨[], [], rfl, nofun, nofun⟩
  | cons d l ih =>
    by_cases h : d.sn < n
    · obtain ⟨A, B, rfl, h1, h2⟩ := ih
      refine ⟨d :: A, B, rfl, fun x hx => ?_, h2⟩
      rcases List.mem_cons.1 hx with rfl | hx
      · exact h
      · exact h1 x hx
    · exact ⟨[], d :: l, rfl, nofun, fun x B' e => by cases e; exact h⟩
theorem rangesR {p : Pk} (h : rightB p = true) : (0 ≤ p.off ∧ p.off ≤ 4000) ∧ (0 ≤ p.fi ∧ p.fi ≤ 3) ∧ p.fs.length ≤ 24 ∧ p.off + total p.fs ≤ 4000 ∧ 0 < total p.fs := by
  have hb : ¬ badB p := fun hb => by rw [right_bad hb] at h; cases h
  have hh : hollowB p.fs = false := by
    rcases (show hollowB p.fs = false ∨ hollowB p.fs = true by cases hollowB p.fs <;> simp) with q | q
    · exact q
    · rw [right_hollow q] at h; cases h
  rw [right_good hb hh] at h
  have h := of_decide_eq_true h
  unfold badB at hb
  simp only [not_or] at hb
  obtain ⟨a1, a2, a3, a4, a5, a6, a7⟩ := hb
  refine ⟨by omega, by omega, by omega, by omega, ?_⟩
  have h0 : 0 < p.fs.length := by omega
  have h1 := total_get (l := p.fs) (i := 0) h0
  have h2 : p.fs[0] ≠ [] := fun e => by
    have : hollowB p.fs = true := List.any_eq_true.2 ⟨p.fs[0], List.getElem_mem h0, decide_eq_true e⟩
    rw [hh] at this; cases this
  have h3 : 0 < p.fs[0].length := List.length_pos_iff.2 h2
  omega
structure DP.Ok (d : DP) : Prop where
  bl : d.B.length ≤ 4000
  gl : d.G.length ≤ 4001
  e : d.e = -1 ∨ (1 ≤ d.e ∧ d.e ≤ 4000 ∧ d.e < d.G.length ∧ d.e ≤ d.B.length)
  bv : ∀ z ∈ d.B, -1 ≤ z ∧ z < 256
theorem freshD_ok (sn : Int) : (freshD sn).Ok := ⟨Nat.zero_le _, Nat.zero_le _, .inl rfl, nofun⟩
abbrev bad3 (l : List DP) (p : Pk) : Prop := (0 ≤ (pieceD l p.sn).e ∧ ((endP p : Int) > (pieceD l p.sn).e ∨ (endsP p = true ∧ (endP p : Int) ≠ (pieceD l p.sn).e))) ∨ (endsP p = true ∧ topT (thereL (pieceD l p.sn).B) (pieceD l p.sn).B.length > endP p)
theorem put_1 {l : List DP} {p : Pk} (h : rightB p = false) : putDc l p = 1 := by unfold putDc; rw [if_pos h]
theorem put_3 {l : List DP} {p : Pk} (h : rightB p = true) (h2 : bad3 l p) : putDc l p = 3 := by unfold putDc; rw [if_neg (by rw [h]; simp), if_pos h2]
theorem put_12 {l : List DP} {p : Pk} (h : rightB p = true) (h2 : ¬ bad3 l p) (h3 : ((cntT (thereL (pieceD l p.sn).B) (p.off, (endP p : Int)) : Nat) : Int) = total p.fs) : putDc l p = 12 := by unfold putDc; rw [if_neg (by rw [h]; simp), if_neg h2, if_pos h3]
theorem put_5 {l : List DP} {p : Pk} (h : rightB p = true) (h2 : ¬ bad3 l p) (h3 : ¬ ((cntT (thereL (pieceD l p.sn).B) (p.off, (endP p : Int)) : Nat) : Int) = total p.fs) (h4 : (runT (thereL (withB (pieceD l p.sn) p)) true (withB (pieceD l p.sn) p).length).length > 2048) : putDc l p = 5 := by
  unfold putDc; rw [if_neg (by rw [h]; simp), if_neg h2, if_neg h3, if_pos h4]
theorem put_0 {l : List DP} {p : Pk} (h : rightB p = true) (h2 : ¬ bad3 l p) (h3 : ¬ ((cntT (thereL (pieceD l p.sn).B) (p.off, (endP p : Int)) : Nat) : Int) = total p.fs) (h4 : ¬ (runT (thereL (withB (pieceD l p.sn) p)) true (withB (pieceD l p.sn) p).length).length > 2048) : putDc l p = 0 := by
  unfold putDc; rw [if_neg (by rw [h]; simp), if_neg h2, if_neg h3, if_neg h4]
theorem withB_len (d : DP) (p : Pk) : (withB d p).length = max d.B.length (endP p) := by
  unfold withB
  rw [fillD_len]
  unfold widenB
  rw [List.length_append, List.length_replicate]; omega
section
variable {σb σ : AHeap} {ix : Nat} {tk : Tok} {l : List DP} {F : List HE}
theorem pieceD_ok (hok : ∀ d ∈ l, d.Ok) (sn : Int) : (pieceD l sn).Ok := by
  unfold pieceD
  cases h : l.find? (fun d => d.sn == sn) with
  | none => exact freshD_ok sn
  | some d => exact hok d (List.mem_of_find?_eq_some h)
set_option maxHeartbeats 8000000 in
theorem ePut (H : Hp σb (.o ix (.cells (dbC tk l)) :: F) σ) (hl : l.length ≤ 10000) (hok : ∀ d ∈ l, d.Ok) (hup : (l.map (·.sn)).Pairwise (· < ·)) (p : Pk) (hfl : p.fs.length ≤ 1000) (hto : total p.fs ≤ 1000000) :
    ACalls Tryz.prog i_bowlineref24_Buffer_Put [.ptr ix 0, amV p] σ fun v σ' => v = i64v (putDc l p) ∧ ∃ tk' l', Hp σb (.o ix (.cells (dbC tk' l')) :: F) σ' ∧
      ((putDc l p ≠ 0 ∧ l' = l) ∨ (putDc l p = 0 ∧ ∃ A B, (∀ d ∈ A, d.sn < p.sn) ∧ (∀ d ∈ B, p.sn < d.sn) ∧ l' = A ++ withD (pieceD l p.sn) p (endsP p) :: B ∧
        ((l = A ++ B ∧ pieceD l p.sn = freshD p.sn) ∨ (l = A ++ pieceD l p.sn :: B ∧ (pieceD l p.sn).sn = p.sn)))) := by
  have fin : ∀ {c : Int} {τ : AHeap}, putDc l p = c → c ≠ 0 → Hp σb (.o ix (.cells (dbC tk l)) :: F) τ → i64v c = i64v (putDc l p) ∧ ∃ tk' l', Hp σb (.o ix (.cells (dbC tk' l')) :: F) τ ∧
      ((putDc l p ≠ 0 ∧ l' = l) ∨ (putDc l p = 0 ∧ ∃ A B, (∀ d ∈ A, d.sn < p.sn) ∧ (∀ d ∈ B, p.sn < d.sn) ∧ l' = A ++ withD (pieceD l p.sn) p (endsP p) :: B ∧
        ((l = A ++ B ∧ pieceD l p.sn = freshD p.sn) ∨ (l = A ++ pieceD l p.sn :: B ∧ (pieceD l p.sn).sn = p.sn)))) := by
    rintro c τ rfl h H
    exact ⟨rfl, tk, l, H, .inl ⟨h, rfl⟩⟩
  refine k_bowlineref24_Buffer_Put rfl ?_
  (refine wX ?_)
  refine hnew H rfl ?_
  clear H
  intro i3 τ H
  (refine wX ?_)
  (repeat (((apply zA H; (· repeat first | exact .h | apply AtK.t))); (refine wX ?_)))
  refine acall (eRight p τ hfl hto) ?_
  rintro _ σ_ ⟨rfl, e_⟩
  obtain rfl := e_.symm
  refine ⟨?_, Ext.refl _⟩
  (refine wX ?_)
  rcases (show rightB p = false ∨ rightB p = true by cases rightB p <;> simp) with hr | hr
  · rw [hr]
    (refine wX ?_)
    exact aret (VLe.refl _) (Sub.refl _) (fin (put_1 hr) (by decide) H.tail)
  obtain ⟨ho, hfi, hn, ht, hpos⟩ := rangesR hr
  rw [hr]
  have hfl2 : p.fs.flatten.length = total p.fs := rfl
  have hend : p.off + (total p.fs : Int) = (endP p : Int) := by unfold endP; omega
  have hxo := pieceD_ok hok p.sn
  have hbl := hxo.bl
  have hgl := hxo.gl
  have hxe := hxo.e
  have hwl := withB_len (pieceD l p.sn) p
  have htop := topT_le (thereL (pieceD l p.sn).B) (pieceD l p.sn).B.length
  (refine wX ?_)
  (repeat (((apply zA H; (· repeat first | exact .h | apply AtK.t))); (refine wX ?_)))
  refine acall (rData10 p τ hfl hto) ?_
  rintro _ σ_ ⟨rfl, e_⟩
  obtain rfl := e_.symm
  refine ⟨?_, Ext.refl _⟩
  (refine wX ?_)
  (refine wX ?_)
  (repeat ((first | refine zI (by omega) ?_ | (apply zL H; (· repeat first | exact .h | apply AtK.t); (· rfl)) | rw [List.length_map]); (refine wX ?_)))
  rw [show p.off + (p.fs.flatten.length : Int) = (endP p : Int) by omega]
  (refine wX ?_)
  apply via_loop (fun b Q => ∀ c9 i9 i10 τ, putDc l p = 0 → Hp σb (.o i10 (.cells (dpC .none (withD (pieceD l p.sn) p (endsP p)))) :: .o i9 c9 :: .o i3 (.cells (amV p).cells) :: .o ix (.cells (dbC tk l)) :: F) τ →
    setsK (Env.full 9) [(s0, .ptr ix 0), (s3, .ptr i3 0), (s8, i64v (findE l p.sn)), (s10, .ptr i10 0), (s11, .slice 6 [] .full), (s12, i64v 0)] fun e => ALoop Tryz.prog c18 b e τ Q)
  case f =>
    intro hK
    have H := H
    rcases (show p.part = false ∨ (p.part = true ∧ p.last = false) ∨ (p.part = true ∧ p.last = true) by cases p.part <;> cases p.last <;> simp) with hp | ⟨hp, hp2⟩ | ⟨hp, hp2⟩
    case' inl =>
      have hen : endsP p = true := by unfold endsP; rw [hp]; rfl
      have hp2 : True := trivial
    case' inr.inl =>
      have hen : endsP p = false := by unfold endsP; rw [hp, hp2]; rfl
    case' inr.inr =>
      have hen : endsP p = true := by unfold endsP; rw [hp, hp2]; rfl
    all_goals
      skip
      rw [hp]
      (refine wX ?_)
      (repeat (((apply zL H; (· repeat first | exact .h | apply AtK.t); (· rfl))); (refine wX ?_)))
      try (rw [hp2]; (refine wX ?_); skip)
      refine acall (eFind (H.get (k := 1) rfl) (by omega) p.sn) ?_
      rintro _ σ_ ⟨rfl, e_⟩
      obtain rfl := e_.symm
      refine ⟨?_, Ext.refl _⟩
      (refine wX ?_)
      (repeat (((apply zL H; (· repeat first | exact .h | apply AtK.t); (· rfl))); (refine wX ?_)))
      refine hnew H rfl ?_
      clear H
      intro i9 τ H
      (refine wX ?_)
      (repeat (((apply zS H; (· repeat first | exact .h | apply AtK.t); (· rfl); (conv => whnf); clear H; intro τ H)); (refine wX ?_)))
      rcases find_at l p.sn with ⟨f1, f2⟩ | ⟨i, hi, f1, f2⟩
      case' inl =>
        have hx : pieceD l p.sn = freshD p.sn := by unfold pieceD; rw [f2]
        replace H : Hp σb (.o i9 (.cells (dpC .full (pieceD l p.sn))) :: .o i3 (.cells (amV p).cells) :: .o ix (.cells (dbC tk l)) :: F) τ := by rw [hx]; exact H
        (repeat ((first | refine zN (by omega) ?_ | (apply zL H; (· repeat first | exact .h | apply AtK.t); (· rfl))); (refine wX ?_)))
      case' inr =>
        have hx : pieceD l p.sn = l[i] := by unfold pieceD; rw [f2]
        (repeat ((first | refine zY (by omega) ?_ | (apply zL H; (· repeat first | exact .h | apply AtK.t); (· rfl))); (refine wX ?_)))
        refine aget (by omega) (x := dpV .none l[i]) (by rw [f1]; exact get_dp hi) ?_
        rw [← hx]
        (refine wX ?_)
        (repeat ((first | refine acellA ?_ | (apply zL H; (· repeat first | exact .h | apply AtK.t); (· rfl)) | (apply zS H; (· repeat first | exact .h | apply AtK.t); (· rfl); (conv => whnf); clear H; intro τ H)); (refine wX ?_)))
        replace H : Hp σb (.o i9 (.cells (dpC .none (pieceD l p.sn))) :: .o i3 (.cells (amV p).cells) :: .o ix (.cells (dbC tk l)) :: F) τ := H
      all_goals
        by_cases c1 : 0 ≤ (pieceD l p.sn).e
        case' pos =>
          (repeat ((first | refine zY (by omega) ?_ | (apply zL H; (· repeat first | exact .h | apply AtK.t); (· rfl))); (refine wX ?_)))
          by_cases c2 : (endP p : Int) > (pieceD l p.sn).e
          · (repeat ((refine zY (by omega) ?_); (refine wX ?_)))
            exact aret (VLe.refl _) (Sub.refl _) (fin (put_3 hr (.inl ⟨c1, .inl c2⟩)) (by decide) H.tail.tail)
          (repeat ((first | refine zN (by omega) ?_ | (apply zL H; (· repeat first | exact .h | apply AtK.t); (· rfl)) | (apply zA H; (· repeat first | exact .h | apply AtK.t)) | rw [List.length_map]); (refine wX ?_)))
          try
            by_cases c3 : (endP p : Int) ≠ (pieceD l p.sn).e
            · (repeat ((refine zY (by omega) ?_); (refine wX ?_)))
              exact aret (VLe.refl _) (Sub.refl _) (fin (put_3 hr (.inl ⟨c1, .inr ⟨hen, c3⟩⟩)) (by decide) H.tail.tail)
            (repeat ((first | refine zN (by omega) ?_ | (apply zA H; (· repeat first | exact .h | apply AtK.t))); (refine wX ?_)))
        case' neg =>
          (repeat ((first | refine zN (by omega) ?_ | (apply zL H; (· repeat first | exact .h | apply AtK.t); (· rfl)) | (apply zA H; (· repeat first | exact .h | apply AtK.t)) | rw [List.length_map]); (refine wX ?_)))
        all_goals
          try
            refine acall (eTop _ (pieceD l p.sn) τ (by omega)) ?_
            rintro _ σ_ ⟨rfl, e_⟩
            obtain rfl := e_.symm
            refine ⟨?_, Ext.refl _⟩
            (refine wX ?_)
            skip
            by_cases c4 : topT (thereL (pieceD l p.sn).B) (pieceD l p.sn).B.length > endP p
            · (repeat ((refine zY (by omega) ?_); (refine wX ?_)))
              exact aret (VLe.refl _) (Sub.refl _) (fin (put_3 hr (.inr ⟨hen, c4⟩)) (by decide) H.tail.tail)
            (repeat ((first | refine zN (by omega) ?_ | (apply zL H; (· repeat first | exact .h | apply AtK.t); (· rfl)) | (apply zA H; (· repeat first | exact .h | apply AtK.t)) | rw [List.length_map]); (refine wX ?_)))
          have nb : ¬ bad3 l p := by rintro (⟨a, b | ⟨b, c⟩⟩ | ⟨b, c⟩) <;> first | contradiction | omega | (rw [hen] at b; cases b)
          refine acall (ePlaces _ (pieceD l p.sn) τ (by omega)) ?_
          rintro _ τ2 ⟨w, E, rfl, hw, N⟩
          refine ⟨?_, N.ext⟩
          have TT := hw.dvt (F := []) N
          replace H := H.more N.sub
          clear hw N
          (refine wX ?_)
          refine acall (rCount03 TT (p.off, (endP p : Int)) (by rw [thereL_len]; omega) (by dsimp only; omega) (by dsimp only; omega) (by dsimp only; omega)) ?_
          rintro _ σ_ ⟨rfl, e_⟩
          obtain rfl := e_.symm
          refine ⟨?_, Ext.refl _⟩
          (refine wX ?_)
          skip
          by_cases c5 : ((cntT (thereL (pieceD l p.sn).B) (p.off, (endP p : Int)) : Nat) : Int) = total p.fs
          · (repeat ((refine zY (by omega) ?_); (refine wX ?_)))
            exact aret (VLe.refl _) (Sub.refl _) (fin (put_12 hr nb c5) (by decide) H.tail.tail)
          (repeat ((first | refine zN (by omega) ?_ | (apply zA H; (· repeat first | exact .h | apply AtK.t))); (refine wX ?_)))
          refine acall (eWith _ (pieceD l p.sn) p _ τ2 (by omega) (by omega) ho hfi hn ht hpos) ?_
          rintro _ τ3 ⟨rfl, N⟩
          refine ⟨?_, N.ext⟩
          replace H := H.more N.sub
          clear N TT
          (refine wX ?_)
          refine hnew H rfl ?_
          clear H
          intro i10 τ H
          (refine wX ?_)
          (repeat ((first | (apply zA H; (· repeat first | exact .h | apply AtK.t)) | (apply zS H; (· repeat first | exact .h | apply AtK.t); (· rfl); (conv => whnf); clear H; intro τ H)); (refine wX ?_)))
          refine acall (ePlaces .none (withD (pieceD l p.sn) p _) τ (by show (withB _ _).length ≤ 100000; omega)) ?_
          rintro _ τ4 ⟨w, E, rfl, hw, N⟩
          refine ⟨?_, N.ext⟩
          have TT := hw.dvt (F := []) N
          replace H := H.more N.sub
          clear hw N
          (refine wX ?_)
          refine acall (rSpans03 TT (by rw [thereL_len]; show (withB _ _).length ≤ 65536; omega)) ?_
          rintro w5 τ5 ⟨E5, hE5, N⟩
          refine ⟨?_, N.ext⟩
          replace H := H.more N.sub
          clear N TT
          rw [thereL_len] at hE5
          replace hE5 : RS2 w5 (runT (thereL (withB (pieceD l p.sn) p)) true (withB (pieceD l p.sn) p).length) E5 := hE5
          by_cases c6 : (runT (thereL (withB (pieceD l p.sn) p)) true (withB (pieceD l p.sn) p).length).length > 2048
          · rcases hE5.len with ⟨t6, rfl, h6⟩ | ⟨r6, rfl⟩
            · omega
            · (refine wX ?_)
              (repeat ((refine zY (by omega) ?_); (refine wX ?_)))
              exact aret (VLe.refl _) (Sub.refl _) (fin (put_5 hr nb c5 c6) (by decide) H.tail.tail.tail)
          rcases hE5.len with ⟨t6, rfl, h6⟩ | ⟨r6, rfl⟩
          all_goals
            (refine wX ?_)
            try rw [show (([] : List AVal).length : Int) = 0 from rfl]
            (repeat ((refine zN (by omega) ?_); (refine wX ?_)))
            refine aloop_from ?_ (hK () _ i9 i10 τ5 (put_0 hr nb c5 c6) (by rw [hen]; exact H))
            exact elX
  intro c9 i9 i10 τ h0 H
  (conv => whnf)
  obtain ⟨A, B, hAB, hA, hB⟩ := split_atD l p.sn
  have hlen : l.length = A.length + B.length := by rw [hAB, List.length_append]
  obtain ⟨y, hy⟩ : ∃ y, y = withD (pieceD l p.sn) p (endsP p) := ⟨_, rfl⟩
  rw [← hy] at H fin ⊢
  refine aloop (α := Nat × Tok × AHeap) (fun z => [(s11, .slice 6 ((l.take z.1).map (dpV .none)) z.2.1), (s12, i64v z.1)]) (fun z => z.2.2) (fun z => z.1 ≤ A.length ∧ Hp σb (.t z.2.1 :: .o i10 (.cells (dpC .none y)) :: .o i9 c9 :: .o i3 (.cells (amV p).cells) :: .o ix (.cells (dbC tk l)) :: F) z.2.2) (fun z => A.length - z.1)
    (0, .full, τ) ⟨Nat.zero_le _, H.cons_full⟩ (Sub.refl _) ?_ ?_
  · (refine wX ?_)
    exact elX
  clear H τ
  rintro ⟨i, tk2, τ⟩ ⟨hi, H⟩
  dsimp only at hi H ⊢
  (refine wX ?_)
  (repeat ((first | (apply zL H; (· repeat first | exact .h | apply AtK.t); (· rfl)) | rw [List.length_map]); (refine wX ?_)))
  have hAt : ∀ j, (h : j < A.length) → ∃ h2 : j < l.length, l[j].sn < p.sn := fun j h => by
    refine ⟨by omega, ?_⟩
    have e : l[j]? = some A[j] := by rw [hAB, List.getElem?_append_left h, List.getElem?_eq_getElem h]
    rw [List.getElem?_eq_getElem (by omega)] at e
    rw [Option.some.inj e]
    exact hA _ (List.getElem_mem h)
  by_cases h1 : i < A.length
  · obtain ⟨hil, hlt⟩ := hAt i h1
    have et : (l.take (i + 1)).map (dpV .none) = (l.take i).map (dpV .none) ++ [dpV .none l[i]] := by rw [List.take_add_one, List.getElem?_eq_getElem hil, List.map_append]; rfl
    (repeat ((first | refine zY (by omega) ?_ | (apply zL H; (· repeat first | exact .h | apply AtK.t); (· rfl))); (refine wX ?_)))
    refine aget (by omega) (get_dp hil) ?_
    (refine wX ?_)
    (repeat ((first | refine zY (by omega) ?_ | refine zR rfl ?_ | (apply zL H; (· repeat first | exact .h | apply AtK.t); (· rfl))); (refine wX ?_)))
    refine aget (by omega) (get_dp hil) ?_
    (refine wX ?_)
    (repeat ((refine acellA ?_); (refine wX ?_)))
    apply zP H
    · (repeat first | exact .h | apply AtK.t)
    · exact (by rw [List.length_map, List.length_take]; simp only [List.length_singleton]; omega)
    intro tk3
    (conv => whnf)
    clear H
    intro τ H
    (refine wX ?_)
    (repeat ((refine zI (by omega) ?_); (refine wX ?_)))
    refine ⟨(i + 1, tk3, τ), ⟨h1, H⟩, by dsimp only; omega, Sub.refl _, ?_⟩
    rw [et]
    (refine wX ?_)
    exact elX
  obtain rfl : i = A.length := by omega
  have htk : l.take A.length = A := by rw [hAB, List.take_left]
  rw [htk]
  have hfa : findE l p.sn = -1 ∨ findE l p.sn = A.length := by
    rcases findE_spec l p.sn with ⟨h, _⟩ | ⟨A', d, B', hl', h, h2, h3⟩
    · exact .inl h
    · refine .inr ?_
      rw [h]
      have : A'.length = A.length := by
        rcases Nat.lt_trichotomy A'.length A.length with q | q | q
        · obtain ⟨h4, h5⟩ := hAt _ q
          have e : l[A'.length] = d := by
            have : l[A'.length]? = some d := by rw [hl', List.getElem?_append_right (Nat.le_refl _), Nat.sub_self]; rfl
            rw [List.getElem?_eq_getElem h4] at this
            exact Option.some.inj this
          rw [e, h2] at h5
          omega
        · exact q
        · exfalso
          have h6 : A.length < l.length := by rw [hl', List.length_append]; omega
          cases B with
          | nil => simp at hlen; omega
          | cons b B2 =>
            have e1 : l[A.length] = b := by
              have : l[A.length]? = some b := by rw [hAB, List.getElem?_append_right (Nat.le_refl _), Nat.sub_self]; rfl
              rw [List.getElem?_eq_getElem h6] at this
              exact Option.some.inj this
            have e2 : l[A.length] = A'[A.length] := by
              have : l[A.length]? = some A'[A.length] := by rw [hl', List.getElem?_append_left q, List.getElem?_eq_getElem q]
              rw [List.getElem?_eq_getElem h6] at this
              exact Option.some.inj this
            have h7 := hB b B2 rfl
            have h8 : A'[A.length].sn < d.sn := by
              rw [hl', List.map_append, List.map_cons, List.pairwise_append] at hup
              exact hup.2.2 _ (List.mem_map_of_mem (List.getElem_mem q)) _ (List.mem_cons_self ..)
            rw [← e2, e1] at h8
            omega
      omega
  have hge : ∀ h : A.length < l.length, ¬ l[A.length].sn < p.sn := fun h => by
    cases B with
    | nil => simp at hlen; omega
    | cons b B2 =>
      have e1 : l[A.length] = b := by
        have : l[A.length]? = some b := by rw [hAB, List.getElem?_append_right (Nat.le_refl _), Nat.sub_self]; rfl
        rw [List.getElem?_eq_getElem h] at this
        exact Option.some.inj this
      rw [e1]; exact hB b B2 rfl
  have hsorted : ∀ b B2, B = b :: B2 → ∀ d ∈ B2, b.sn < d.sn := fun b B2 e d hd => by
    rw [hAB, e, List.map_append, List.map_cons, List.pairwise_append, List.pairwise_cons] at hup
    exact hup.2.1.1 _ (List.mem_map_of_mem hd)
  have hcase : (findE l p.sn = -1 ∧ (∀ d ∈ B, p.sn < d.sn) ∧ pieceD l p.sn = freshD p.sn) ∨ (findE l p.sn = A.length ∧ ∃ B', B = pieceD l p.sn :: B' ∧ (pieceD l p.sn).sn = p.sn ∧ ∀ d ∈ B', p.sn < d.sn) := by
    rcases find_at l p.sn with ⟨f1, f2⟩ | ⟨i, hi, f1, f2⟩
    · refine .inl ⟨f1, fun d hd => ?_, by unfold pieceD; rw [f2]⟩
      have hno : ∀ d ∈ l, d.sn ≠ p.sn := fun d hd e => by
        have := List.find?_eq_none.1 f2 d hd
        simp [e] at this
      cases B with
      | nil => simp at hd
      | cons b B2 =>
        have h3 := hB b B2 rfl
        have h4 := hno b (by rw [hAB]; simp)
        rcases List.mem_cons.1 hd with rfl | hd
        · omega
        · have := hsorted b B2 rfl d hd; omega
    · have hia : i = A.length := by omega
      subst hia
      have hx : pieceD l p.sn = l[A.length] := by unfold pieceD; rw [f2]
      have hs : l[A.length].sn = p.sn := by have := List.find?_some f2; simpa using this
      refine .inr ⟨f1, ?_⟩
      cases B with
      | nil => simp at hlen; omega
      | cons b B2 =>
        have e1 : l[A.length] = b := by
          have : l[A.length]? = some b := by rw [hAB, List.getElem?_append_right (Nat.le_refl _), Nat.sub_self]; rfl
          rw [List.getElem?_eq_getElem hi] at this
          exact Option.some.inj this
        refine ⟨B2, by rw [hx, e1], by rw [hx]; exact hs, fun d hd => ?_⟩
        have := hsorted b B2 rfl d hd
        rw [e1] at hs
        omega
  by_cases hil : A.length < l.length
  case' pos =>
    have hg2 := hge hil
    (repeat ((first | refine zY (by omega) ?_ | (apply zL H; (· repeat first | exact .h | apply AtK.t); (· rfl))); (refine wX ?_)))
    refine aget (by omega) (get_dp hil) ?_
    (refine wX ?_)
    (repeat ((first | refine zN (by omega) ?_ | refine zR rfl ?_ | (apply zL H; (· repeat first | exact .h | apply AtK.t); (· rfl)) | (apply zA H; (· repeat first | exact .h | apply AtK.t))); (refine wX ?_)))
  case' neg =>
    (repeat ((first | refine zN (by omega) ?_ | (apply zA H; (· repeat first | exact .h | apply AtK.t))); (refine wX ?_)))
  all_goals
    apply zP H
    · (repeat first | exact .h | apply AtK.t)
    · exact (by rw [List.length_map]; simp only [List.length_singleton]; omega)
    intro tk3
    (conv => whnf)
    clear H
    intro τ H
    (refine wX ?_)
    skip
    rcases hcase with ⟨hf, hBs, hfr⟩ | ⟨hf, B', hB', hsn, hBs⟩
    · have hdr : List.drop ((A.length : Nat) : Int).toNat (List.take ((l.length : Nat) : Int).toNat (l.map (dpV .none))) = B.map (dpV .none) := by
        rw [Int.toNat_natCast, Int.toNat_natCast, List.take_of_length_le (by rw [List.length_map]; exact Nat.le_refl _), hAB, List.map_append, List.drop_left' (by rw [List.length_map])]
      (repeat ((first | refine zN (by omega) ?_ | (apply zL H; (· repeat first | exact .h | apply AtK.t); (· rfl)) | rw [List.length_map]); (refine wX ?_)))
      refine acut (by omega) (by omega) (by omega) ?_
      rw [hdr]
      (refine wX ?_)
      apply zP H
      · (repeat first | exact .h | apply AtK.t)
      · exact (by rw [List.length_append, List.length_map, List.length_map]; simp only [List.length_singleton]; omega)
      intro tk4
      (conv => whnf)
      clear H
      intro τ H
      (refine wX ?_)
      (repeat (((apply zS H; (· repeat first | exact .h | apply AtK.t); (· rfl); (conv => whnf); clear H; intro τ H)); (refine wX ?_)))
      exact aret (VLe.refl _) (Sub.refl _) ⟨by rw [h0], tk4, A ++ y :: B, by
        have := H.tail.tail.tail.tail
        unfold dbC
        rw [show (A ++ y :: B).map (dpV .none) = A.map (dpV .none) ++ [dpV .none y] ++ B.map (dpV .none) by rw [List.map_append, List.map_cons, List.append_assoc]; rfl]
        exact this, .inr ⟨h0, A, B, hA, hBs, rfl, .inl ⟨hAB, hfr⟩⟩⟩
    · have hdr : List.drop (((A.length : Nat) : Int) + 1).toNat (List.take ((l.length : Nat) : Int).toNat (l.map (dpV .none))) = B'.map (dpV .none) := by
        rw [Int.toNat_natCast, show (((A.length : Nat) : Int) + 1).toNat = A.length + 1 by omega, List.take_of_length_le (by rw [List.length_map]; exact Nat.le_refl _), hAB, hB', List.map_append, List.map_cons, List.append_cons, List.drop_left' (by simp)]
      have hBl : B.length = B'.length + 1 := by rw [hB']; rfl
      (repeat ((first | refine zI (by omega) ?_ | refine zY (by omega) ?_ | (apply zL H; (· repeat first | exact .h | apply AtK.t); (· rfl)) | rw [List.length_map]); (refine wX ?_)))
      refine acut (by omega) (by omega) (by omega) ?_
      rw [hdr]
      (refine wX ?_)
      apply zP H
      · (repeat first | exact .h | apply AtK.t)
      · exact (by rw [List.length_append, List.length_map, List.length_map]; simp only [List.length_singleton]; omega)
      intro tk4
      (conv => whnf)
      clear H
      intro τ H
      (refine wX ?_)
      (repeat (((apply zS H; (· repeat first | exact .h | apply AtK.t); (· rfl); (conv => whnf); clear H; intro τ H)); (refine wX ?_)))
      exact aret (VLe.refl _) (Sub.refl _) ⟨by rw [h0], tk4, A ++ y :: B', by
        have := H.tail.tail.tail.tail
        unfold dbC
        rw [show (A ++ y :: B').map (dpV .none) = A.map (dpV .none) ++ [dpV .none y] ++ B'.map (dpV .none) by rw [List.map_append, List.map_cons, List.append_assoc]; rfl]
        exact this, .inr ⟨h0, A, B', hA, hBs, rfl, .inr ⟨hAB.trans (by rw [← hB']), hsn⟩⟩⟩
end
end Go.Proofs.YtgbpjbpdpgbngaaGreat
/-
  What came in parts, the document's: what is dropped.
-/
namespace Go.Proofs.YtgbpjbpdpgbngaaGreat
set_option maxRecDepth 20000
open Go Go.Am

section
variable {σb σ : AHeap} {ix : Nat} {tk : Tok} {l : List DP} {F : List HE}
theorem eDrop (H : Hp σb (.o ix (.cells (dbC tk l)) :: F) σ) (hl : l.length ≤ 10000) (sn : Int) :
    ACalls Tryz.prog i_bowlineref24_Buffer_Drop [.ptr ix 0, i64v sn] σ fun v σ' => v = i64v (if findE l sn ≥ 0 then 0 else 4) ∧ ∃ tk' l', Hp σb (.o ix (.cells (dbC tk' l')) :: F) σ' ∧
      ((findE l sn = -1 ∧ l' = l) ∨ ∃ A d B, l = A ++ d :: B ∧ d.sn = sn ∧ findE l sn = A.length ∧ l' = A ++ B) := by
  refine k_bowlineref24_Buffer_Drop rfl ?_
  (refine wX ?_)
  refine acall (eFind (H.get (k := 0) rfl) (by omega) sn) ?_
  rintro _ σ_ ⟨rfl, e_⟩
  obtain rfl := e_.symm
  refine ⟨?_, Ext.refl _⟩
  (refine wX ?_)
  rcases findE_spec l sn with ⟨h1, h2⟩ | ⟨A, d, B, hAB, h1, h2, h3⟩
  · rw [h1]
    (refine wX ?_)
    skip
    exact aret (VLe.refl _) (Sub.refl _) ⟨rfl, tk, l, H, .inl ⟨rfl, rfl⟩⟩
  have hlen : l.length = A.length + (B.length + 1) := by rw [hAB, List.length_append, List.length_cons]
  have e1 : List.drop (0 : Int).toNat (List.take ((A.length : Nat) : Int).toNat (l.map (dpV .none))) = A.map (dpV .none) := by
    rw [Int.toNat_natCast, hAB, List.map_append, List.take_left' (by rw [List.length_map])]; rfl
  have e2 : List.drop (((A.length : Nat) : Int) + 1).toNat (List.take ((l.length : Nat) : Int).toNat (l.map (dpV .none))) = B.map (dpV .none) := by
    rw [Int.toNat_natCast, show (((A.length : Nat) : Int) + 1).toNat = A.length + 1 by omega, List.take_of_length_le (by rw [List.length_map]; exact Nat.le_refl _), hAB, List.map_append, List.map_cons, List.append_cons, List.drop_left' (by simp)]
  rw [h1, if_pos (by omega)]
  (refine wX ?_)
  (repeat ((first | refine zN (by omega) ?_ | (apply zL H; (· repeat first | exact .h | apply AtK.t); (· rfl)) | rw [List.length_map]); (refine wX ?_)))
  refine acut (by omega) (by omega) (by omega) ?_
  rw [e1]
  (refine wX ?_)
  refine happF H (by rw [List.length_map]; simp only [List.length_nil]; omega) ?_
  clear H
  intro tk3 τ H
  (refine wX ?_)
  (repeat ((first | refine zI (by omega) ?_ | (apply zL H; (· repeat first | exact .h | apply AtK.t); (· rfl)) | rw [List.length_map]); (refine wX ?_)))
  refine acut (by omega) (by omega) (by omega) ?_
  rw [e2]
  (refine wX ?_)
  apply zP H
  · (repeat first | exact .h | apply AtK.t)
  · exact (by rw [List.length_append, List.length_map, List.length_map]; simp only [List.length_nil]; omega)
  intro tk4
  (conv => whnf)
  clear H
  intro τ H
  (refine wX ?_)
  (repeat (((apply zS H; (· repeat first | exact .h | apply AtK.t); (· rfl); (conv => whnf); clear H; intro τ H)); (refine wX ?_)))
  exact aret (VLe.refl _) (Sub.refl _) ⟨rfl, tk4, A ++ B, by
    have := H.tail
    unfold dbC
    rw [show (A ++ B).map (dpV .none) = [] ++ A.map (dpV .none) ++ B.map (dpV .none) by rw [List.map_append, List.nil_append]]
    exact this, .inr ⟨A, d, B, hAB, h2, rfl, rfl⟩⟩
end
end Go.Proofs.YtgbpjbpdpgbngaaGreat
