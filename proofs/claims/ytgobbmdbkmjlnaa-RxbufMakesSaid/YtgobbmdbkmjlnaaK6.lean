/-
  Texts of this claim, pack 6: Crxbe, Crxbf, Crxbg, Crxbh, Cpkx, Cgreat, Claw24a, Claw24b, Claw24c, Csamef, Crefsz, Camdb, Cpcs, Cresg, Cresp.
-/
import Derived.Test.YtgobbmdbkmjlnaaK3
import Derived.Test.YtgobbmdbkmjlnaaK4
import Derived.Test.YtgobbmdbkmjlnaaK5
/-
  What came in parts: what is missing, and what is taken.
-/
namespace Go.Proofs.Ytgobbmdbkmjlnaa
set_option linter.unusedVariables false
set_option linter.unusedSimpArgs false
set_option maxRecDepth 20000
open Go Go.Am

/-- Is a place an edge? -/
def hasE (em : List (Int × AVal)) (k : Int) : Bool := (em.find? fun e => e.1 == k).isSome
def AllT (em : List (Int × AVal)) : Prop := ∀ x ∈ em, x.2 = trueV
theorem look_edge {em : List (Int × AVal)} (h : AllT em) (k : Int) : (((em.find? fun e => e.1 == k).map (·.2)).getD (.v (.bool false))) = boolv (hasE em k) := by
  unfold hasE
  cases hf : em.find? fun e => e.1 == k with
  | none => rfl
  | some x => rw [Option.map_some, Option.getD_some, h x (List.mem_of_find?_eq_some hf)]; rfl
theorem AllT.set : ∀ {em : List (Int × AVal)} {k : Int}, AllT em → AllT (mapSet em k trueV)
  | [], k, _ => fun x hx => by simp [mapSet] at hx; rw [hx]
  | (m, y) :: r, k, h => by
    intro x hx
    by_cases hm : m = k
    · simp [mapSet, hm] at hx
      rcases hx with rfl | hx
      · rfl
      · exact h x (List.mem_cons_of_mem _ hx)
    · simp [mapSet, hm] at hx
      rcases hx with rfl | hx
      · exact h _ (List.mem_cons_self ..)
      · exact AllT.set (fun z hz => h z (List.mem_cons_of_mem _ hz)) x hx
theorem hasE_set : ∀ {em : List (Int × AVal)} {k j : Int}, hasE (mapSet em k trueV) j = (decide (j = k) || hasE em j)
  | [], k, j => by
    by_cases h : j = k
    · subst h; simp [mapSet, hasE]
    · simp [mapSet, hasE, h, Ne.symm h]
  | (m, y) :: r, k, j => by
    have ih := hasE_set (em := r) (k := k) (j := j)
    by_cases hm : m = k
    · subst hm
      by_cases h : j = m
      · subst h; simp [mapSet, hasE]
      · simp [mapSet, hasE, h, Ne.symm h]
    · by_cases h : m = j
      · subst h; simp [mapSet, hasE, hm]
      · have hb : (m == j) = false := by simp [h]
        have e1 : mapSet ((m, y) :: r) k trueV = (m, y) :: mapSet r k trueV := by simp [mapSet, hm]
        unfold hasE at ih ⊢
        rw [e1, List.find?_cons, List.find?_cons]
        dsimp only
        rw [hb]
        exact ih
theorem AllT.noteN {p : Pk} {em : List (Int × AVal)} (h : AllT em) : ∀ k, AllT (noteN p em k)
  | 0 => h
  | k + 1 => by
    rw [show Go.Proofs.Ytgobbmdbkmjlnaa.noteN p em (k + 1) = if k > 0 then mapSet (Go.Proofs.Ytgobbmdbkmjlnaa.noteN p em k) (p.off + (total (p.fs.take k) : Int)) trueV else Go.Proofs.Ytgobbmdbkmjlnaa.noteN p em k from rfl]
    split
    · exact (AllT.noteN h k).set
    · exact AllT.noteN h k
theorem AllT.noteM {p : Pk} {ends : Bool} {em : List (Int × AVal)} (h : AllT em) : AllT (noteM p ends em) := by
  have h1 : AllT (note1 p em) := by
    unfold note1
    split
    · exact h
    · split
      · exact h.set
      · exact h
  unfold Go.Proofs.Ytgobbmdbkmjlnaa.noteM
  split
  · exact h1.noteN _
  · split
    · exact (h1.noteN _).set
    · exact h1.noteN _
/-- The fields so far, and where the next one begins. -/
def takeN (D : List UInt8) (em : List (Int × AVal)) (e : Int) : Nat → List (List UInt8) × Nat
  | 0 => ([], 0)
  | k + 1 => if ((k : Int) + 1 = e ∨ hasE em ((k : Int) + 1) = true) then ((takeN D em e k).1 ++ [(D.take (k + 1)).drop (takeN D em e k).2], k + 1) else takeN D em e k
theorem takeN_le (D : List UInt8) (em : List (Int × AVal)) (e : Int) : ∀ k, (takeN D em e k).2 ≤ k ∧ (takeN D em e k).1.length ≤ k
  | 0 => ⟨Nat.le_refl _, Nat.le_refl _⟩
  | k + 1 => by
    obtain ⟨h1, h2⟩ := takeN_le D em e k
    unfold takeN
    split
    · refine ⟨Nat.le_refl _, ?_⟩
      rw [List.length_append, List.length_singleton]; omega
    · exact ⟨by omega, by omega⟩

section
variable {σb σ : AHeap} {ib im ip is ig : Nat} {e fi : Int} {l : List Sp} {tk : Tok} {v : AVal} {D : List UInt8} {em es : List (Int × AVal)} {E G : List HE}
theorem gapsV_len {to : Int} : (gapsV to l).length ≤ l.length + 1 := by
  unfold gapsV
  split
  · exact gapsL_len
  · simp
theorem buMissing (b1 : σ ib = some (.cells (buC im))) (b2 : σ im = some (.map es)) (sn : Int) (he : es.find? (fun e => e.1 == sn) = some (sn, .ptr ip 0)) (b3 : σ ip = some (.cells (peC v is e ig fi))) (b4 : σ is = some (.cells [spL tk l])) (hs : SOk l) :
    ACalls Try.prog i_rxbuf_Buffer_Missing [.ptr ib 0, i64v sn] σ fun r σ' => ∃ u, Owned σ σ' u ∧ r = spL u (missL l e) := by
  refine k_rxbuf_Buffer_Missing rfl ?_
  have H := Hp.nil σ
  (refine wX ?_)
  refine acall (buFind b1 b2 sn he) ?_
  rintro _ σ_ ⟨rfl, e_⟩
  obtain rfl := e_.symm
  refine ⟨?_, Ext.refl _⟩
  (refine wX ?_)
  (repeat ((first | refine zI (by omega) ?_ | refine zE (by omega) (by omega) ?_ | refine zD (by omega) (by omega) ?_ | refine zY (by omega) ?_ | refine zN (by omega) ?_ | refine amin ?_ | refine amax ?_ | refine zU (by omega) ?_ | refine z8 (by omega) ?_ | refine zX (by omega) (by omega) ?_ | refine zR rfl ?_ | refine acellA ?_ | refine zB H b1 rfl ?_ | refine zC H b1 ?_ | refine zB H b2 rfl ?_ | refine zC H b2 ?_ | refine zB H b3 rfl ?_ | refine zC H b3 ?_ | refine zB H b4 rfl ?_ | refine zC H b4 ?_ | (apply zL H; (· repeat first | exact .h | apply AtK.t); (· rfl)) | (apply zA H; (· repeat first | exact .h | apply AtK.t)) | (apply zS H; (· repeat first | exact .h | apply AtK.t); (· rfl); (conv => whnf); clear H; intro τ H) | rw [List.length_map]); (refine wX ?_)))
  unfold missL
  by_cases h : e = -1
  · rw [if_neg (fun k => k h)]
    (repeat ((first | refine zI (by omega) ?_ | refine zE (by omega) (by omega) ?_ | refine zD (by omega) (by omega) ?_ | refine zY (by omega) ?_ | refine zN (by omega) ?_ | refine amin ?_ | refine amax ?_ | refine zU (by omega) ?_ | refine z8 (by omega) ?_ | refine zX (by omega) (by omega) ?_ | refine zR rfl ?_ | refine acellA ?_ | refine zB H b1 rfl ?_ | refine zC H b1 ?_ | refine zB H b2 rfl ?_ | refine zC H b2 ?_ | refine zB H b3 rfl ?_ | refine zC H b3 ?_ | refine zB H b4 rfl ?_ | refine zC H b4 ?_ | (apply zL H; (· repeat first | exact .h | apply AtK.t); (· rfl)) | (apply zA H; (· repeat first | exact .h | apply AtK.t)) | (apply zS H; (· repeat first | exact .h | apply AtK.t); (· rfl); (conv => whnf); clear H; intro τ H) | rw [List.length_map]); (refine wX ?_)))
    refine acall (peTop b3 b4 hs.mid) ?_
    rintro _ σ_ ⟨rfl, e_⟩
    obtain rfl := e_.symm
    refine ⟨?_, Ext.refl _⟩
    (refine wX ?_)
    refine acall (sGaps b4 hs (topL l)) ?_
    rintro _ τ ⟨u, hu, rfl⟩
    refine ⟨?_, hu.ext⟩
    have H := H.owned hu
    (refine wX ?_)
    refine acall (peTop (H.sub _ _ b3) (H.sub _ _ b4) hs.mid) ?_
    rintro _ σ_ ⟨rfl, e_⟩
    obtain rfl := e_.symm
    refine ⟨?_, Ext.refl _⟩
    (refine wX ?_)
    have hg := gapsV_len (l := l) (to := topL l)
    have hk := hs.k
    (repeat ((first | refine zI (by omega) ?_ | refine zE (by omega) (by omega) ?_ | refine zD (by omega) (by omega) ?_ | refine zY (by omega) ?_ | refine zN (by omega) ?_ | refine amin ?_ | refine amax ?_ | refine zU (by omega) ?_ | refine z8 (by omega) ?_ | refine zX (by omega) (by omega) ?_ | refine zR rfl ?_ | refine acellA ?_ | refine zB H b1 rfl ?_ | refine zC H b1 ?_ | refine zB H b2 rfl ?_ | refine zC H b2 ?_ | refine zB H b3 rfl ?_ | refine zC H b3 ?_ | refine zB H b4 rfl ?_ | refine zC H b4 ?_ | (apply zL H; (· repeat first | exact .h | apply AtK.t); (· rfl)) | (apply zA H; (· repeat first | exact .h | apply AtK.t)) | (apply zS H; (· repeat first | exact .h | apply AtK.t); (· rfl); (conv => whnf); clear H; intro τ H) | rw [List.length_map]); (refine wX ?_)))
    apply zP H
    · (repeat first | exact .h | apply AtK.t)
    · exact (by rw [List.length_map]; show (_ + 1) * 16 ≤ _; omega)
    intro tk2
    (conv => whnf)
    clear H
    intro τ H
    (refine wX ?_)
    rw [show [AVal.agg [i64v (topL l), AVal.v (.int .i64 0)]] = [spV (topL l, 0)] from rfl, sp_snoc]
    (refine wX ?_)
    (repeat ((first | refine zI (by omega) ?_ | refine zE (by omega) (by omega) ?_ | refine zD (by omega) (by omega) ?_ | refine zY (by omega) ?_ | refine zN (by omega) ?_ | refine amin ?_ | refine amax ?_ | refine zU (by omega) ?_ | refine z8 (by omega) ?_ | refine zX (by omega) (by omega) ?_ | refine zR rfl ?_ | refine acellA ?_ | refine zB H b1 rfl ?_ | refine zC H b1 ?_ | refine zB H b2 rfl ?_ | refine zC H b2 ?_ | refine zB H b3 rfl ?_ | refine zC H b3 ?_ | refine zB H b4 rfl ?_ | refine zC H b4 ?_ | (apply zL H; (· repeat first | exact .h | apply AtK.t); (· rfl)) | (apply zA H; (· repeat first | exact .h | apply AtK.t)) | (apply zS H; (· repeat first | exact .h | apply AtK.t); (· rfl); (conv => whnf); clear H; intro τ H) | rw [List.length_map]); (refine wX ?_)))
    obtain ⟨σ2, q1, q2⟩ := H.toOwned
    exact aret (VLe.refl _) q2 ⟨tk2, q1, rfl⟩
  · rw [if_pos h]
    (repeat ((first | refine zI (by omega) ?_ | refine zE (by omega) (by omega) ?_ | refine zD (by omega) (by omega) ?_ | refine zY (by omega) ?_ | refine zN (by omega) ?_ | refine amin ?_ | refine amax ?_ | refine zU (by omega) ?_ | refine z8 (by omega) ?_ | refine zX (by omega) (by omega) ?_ | refine zR rfl ?_ | refine acellA ?_ | refine zB H b1 rfl ?_ | refine zC H b1 ?_ | refine zB H b2 rfl ?_ | refine zC H b2 ?_ | refine zB H b3 rfl ?_ | refine zC H b3 ?_ | refine zB H b4 rfl ?_ | refine zC H b4 ?_ | (apply zL H; (· repeat first | exact .h | apply AtK.t); (· rfl)) | (apply zA H; (· repeat first | exact .h | apply AtK.t)) | (apply zS H; (· repeat first | exact .h | apply AtK.t); (· rfl); (conv => whnf); clear H; intro τ H) | rw [List.length_map]); (refine wX ?_)))
    refine acall (sGaps b4 hs e) ?_
    rintro _ τ ⟨u, hu, rfl⟩
    refine ⟨?_, hu.ext⟩
    (refine wX ?_)
    exact aret (VLe.refl _) (Sub.refl _) ⟨u, hu, rfl⟩
theorem buMissingNone (b1 : σ ib = some (.cells (buC im))) (b2 : σ im = some (.map es)) (sn : Int) (he : es.find? (fun e => e.1 == sn) = none) :
    ACalls Try.prog i_rxbuf_Buffer_Missing [.ptr ib 0, i64v sn] σ fun r σ' => r = spL .full [] ∧ σ' = σ := by
  refine k_rxbuf_Buffer_Missing rfl ?_
  have H := Hp.nil σ
  (refine wX ?_)
  refine acall (buNone b1 b2 sn he) ?_
  rintro _ σ_ ⟨rfl, e_⟩
  obtain rfl := e_.symm
  refine ⟨?_, Ext.refl _⟩
  (refine wX ?_)
  (repeat ((first | refine zI (by omega) ?_ | refine zE (by omega) (by omega) ?_ | refine zD (by omega) (by omega) ?_ | refine zY (by omega) ?_ | refine zN (by omega) ?_ | refine amin ?_ | refine amax ?_ | refine zU (by omega) ?_ | refine z8 (by omega) ?_ | refine zX (by omega) (by omega) ?_ | refine zR rfl ?_ | refine acellA ?_ | refine zB H b1 rfl ?_ | refine zC H b1 ?_ | refine zB H b2 rfl ?_ | refine zC H b2 ?_ | (apply zL H; (· repeat first | exact .h | apply AtK.t); (· rfl)) | (apply zA H; (· repeat first | exact .h | apply AtK.t)) | (apply zS H; (· repeat first | exact .h | apply AtK.t); (· rfl); (conv => whnf); clear H; intro τ H) | rw [List.length_map]); (refine wX ?_)))
  exact aret (VLe.refl _) H.sub ⟨rfl, rfl⟩
theorem buTakeNone (b1 : σ ib = some (.cells (buC im))) (b2 : σ im = some (.map es)) (sn : Int) (he : es.find? (fun e => e.1 == sn) = none) :
    ACalls Try.prog i_rxbuf_Buffer_Take [.ptr ib 0, i64v sn] σ fun r σ' => r = .tup [i64v 0, .slice 1 [] .full, i64v 4] ∧ σ' = σ := by
  refine k_rxbuf_Buffer_Take rfl ?_
  have H := Hp.nil σ
  (refine wX ?_)
  refine acall (buNone b1 b2 sn he) ?_
  rintro _ σ_ ⟨rfl, e_⟩
  obtain rfl := e_.symm
  refine ⟨?_, Ext.refl _⟩
  (refine wX ?_)
  (repeat ((first | refine zI (by omega) ?_ | refine zE (by omega) (by omega) ?_ | refine zD (by omega) (by omega) ?_ | refine zY (by omega) ?_ | refine zN (by omega) ?_ | refine amin ?_ | refine amax ?_ | refine zU (by omega) ?_ | refine z8 (by omega) ?_ | refine zX (by omega) (by omega) ?_ | refine zR rfl ?_ | refine acellA ?_ | refine zB H b1 rfl ?_ | refine zC H b1 ?_ | refine zB H b2 rfl ?_ | refine zC H b2 ?_ | (apply zL H; (· repeat first | exact .h | apply AtK.t); (· rfl)) | (apply zA H; (· repeat first | exact .h | apply AtK.t)) | (apply zS H; (· repeat first | exact .h | apply AtK.t); (· rfl); (conv => whnf); clear H; intro τ H) | rw [List.length_map]); (refine wX ?_)))
  exact aret (VLe.refl _) H.sub ⟨rfl, rfl⟩
theorem buTakeShort (b1 : σ ib = some (.cells (buC im))) (b2 : σ im = some (.map es)) (sn : Int) (he : es.find? (fun e => e.1 == sn) = some (sn, .ptr ip 0)) (b3 : σ ip = some (.cells (peC v is e ig fi))) (b4 : σ is = some (.cells [spL tk l])) (hs : SOk l) (hw : wholeV l e = false) :
    ACalls Try.prog i_rxbuf_Buffer_Take [.ptr ib 0, i64v sn] σ fun r σ' => r = .tup [i64v 0, .slice 1 [] .full, i64v 8] ∧ σ' = σ := by
  refine k_rxbuf_Buffer_Take rfl ?_
  have H := Hp.nil σ
  (refine wX ?_)
  refine acall (buFind b1 b2 sn he) ?_
  rintro _ σ_ ⟨rfl, e_⟩
  obtain rfl := e_.symm
  refine ⟨?_, Ext.refl _⟩
  (refine wX ?_)
  (repeat ((first | refine zI (by omega) ?_ | refine zE (by omega) (by omega) ?_ | refine zD (by omega) (by omega) ?_ | refine zY (by omega) ?_ | refine zN (by omega) ?_ | refine amin ?_ | refine amax ?_ | refine zU (by omega) ?_ | refine z8 (by omega) ?_ | refine zX (by omega) (by omega) ?_ | refine zR rfl ?_ | refine acellA ?_ | refine zB H b1 rfl ?_ | refine zC H b1 ?_ | refine zB H b2 rfl ?_ | refine zC H b2 ?_ | refine zB H b3 rfl ?_ | refine zC H b3 ?_ | refine zB H b4 rfl ?_ | refine zC H b4 ?_ | (apply zL H; (· repeat first | exact .h | apply AtK.t); (· rfl)) | (apply zA H; (· repeat first | exact .h | apply AtK.t)) | (apply zS H; (· repeat first | exact .h | apply AtK.t); (· rfl); (conv => whnf); clear H; intro τ H) | rw [List.length_map]); (refine wX ?_)))
  refine acall (peWhole b3 b4 hs.mid) ?_
  rintro _ σ_ ⟨rfl, e_⟩
  obtain rfl := e_.symm
  refine ⟨?_, Ext.refl _⟩
  (refine wX ?_)
  rw [hw]
  (refine wX ?_)
  (repeat ((first | refine zI (by omega) ?_ | refine zE (by omega) (by omega) ?_ | refine zD (by omega) (by omega) ?_ | refine zY (by omega) ?_ | refine zN (by omega) ?_ | refine amin ?_ | refine amax ?_ | refine zU (by omega) ?_ | refine z8 (by omega) ?_ | refine zX (by omega) (by omega) ?_ | refine zR rfl ?_ | refine acellA ?_ | refine zB H b1 rfl ?_ | refine zC H b1 ?_ | refine zB H b2 rfl ?_ | refine zC H b2 ?_ | refine zB H b3 rfl ?_ | refine zC H b3 ?_ | refine zB H b4 rfl ?_ | refine zC H b4 ?_ | (apply zL H; (· repeat first | exact .h | apply AtK.t); (· rfl)) | (apply zA H; (· repeat first | exact .h | apply AtK.t)) | (apply zS H; (· repeat first | exact .h | apply AtK.t); (· rfl); (conv => whnf); clear H; intro τ H) | rw [List.length_map]); (refine wX ?_)))
  exact aret (VLe.refl _) H.sub ⟨rfl, rfl⟩
set_option maxHeartbeats 4000000 in
theorem buTake (h : RB v D E) (H : Hp σb (.o ib (.cells (buC im)) :: .o im (.map es) :: .o ip (.cells (peC v is e ig fi)) :: .o is (.cells [spL tk l]) :: .o ig (.map em) :: (E ++ G)) σ) (sn : Int) (he : es.find? (fun e => e.1 == sn) = some (sn, .ptr ip 0)) (hs : SOk l) (hw : wholeV l e = true)
    (hD : e ≤ D.length) (hD2 : D.length ≤ 1000000) (hem : AllT em) :
    ACalls Try.prog i_rxbuf_Buffer_Take [.ptr ib 0, i64v sn] σ fun r σ' => r = .tup [i64v fi, lists .none (takeN D em e e.toNat).1, i64v 0] ∧ Hp σb (.o ib (.cells (buC im)) :: .o im (.map (mapDel es sn)) :: .o ip (.cells (peC v is e ig fi)) :: .o is (.cells [spL tk l]) :: .o ig (.map em) :: (E ++ G)) σ' := by
  have he0 : 0 < e := by
    unfold wholeV at hw
    simp at hw
    omega
  cases h with
  | nil => simp at hD; omega
  | row r _ hDn =>
  replace H : Hp σb (.o ib (.cells (buC im)) :: .o im (.map es) :: .o ip (.cells (peC (.ms r 1 0 D.length) is e ig fi)) :: .o is (.cells [spL tk l]) :: .o ig (.map em) :: .o r (.cells (D.map byteV)) :: G) σ := H
  refine k_rxbuf_Buffer_Take rfl ?_
  (refine wX ?_)
  refine acall (buFind (H.get (k := 0) rfl) (H.get (k := 1) rfl) sn he) ?_
  rintro _ σ_ ⟨rfl, e_⟩
  obtain rfl := e_.symm
  refine ⟨?_, Ext.refl _⟩
  (refine wX ?_)
  (repeat ((first | refine zI (by omega) ?_ | refine zE (by omega) (by omega) ?_ | refine zD (by omega) (by omega) ?_ | refine zY (by omega) ?_ | refine zN (by omega) ?_ | refine amin ?_ | refine amax ?_ | refine zU (by omega) ?_ | refine z8 (by omega) ?_ | refine zX (by omega) (by omega) ?_ | refine zR rfl ?_ | refine acellA ?_ | (apply zL H; (· repeat first | exact .h | apply AtK.t); (· rfl)) | (apply zA H; (· repeat first | exact .h | apply AtK.t)) | (apply zS H; (· repeat first | exact .h | apply AtK.t); (· rfl); (conv => whnf); clear H; intro τ H) | rw [List.length_map]); (refine wX ?_)))
  refine acall (peWhole (H.get (k := 2) rfl) (H.get (k := 3) rfl) hs.mid) ?_
  rintro _ σ_ ⟨rfl, e_⟩
  obtain rfl := e_.symm
  refine ⟨?_, Ext.refl _⟩
  (refine wX ?_)
  rw [hw]
  (refine wX ?_)
  (repeat ((first | refine zI (by omega) ?_ | refine zE (by omega) (by omega) ?_ | refine zD (by omega) (by omega) ?_ | refine zY (by omega) ?_ | refine zN (by omega) ?_ | refine amin ?_ | refine amax ?_ | refine zU (by omega) ?_ | refine z8 (by omega) ?_ | refine zX (by omega) (by omega) ?_ | refine zR rfl ?_ | refine acellA ?_ | (apply zL H; (· repeat first | exact .h | apply AtK.t); (· rfl)) | (apply zA H; (· repeat first | exact .h | apply AtK.t)) | (apply zS H; (· repeat first | exact .h | apply AtK.t); (· rfl); (conv => whnf); clear H; intro τ H) | rw [List.length_map]); (refine wX ?_)))
  replace H := H.cons_full
  refine aloop (α := Nat × Tok × AHeap) (fun y => [(s11, i64v ((y.1 : Int) + 1)), (s10, i64v (takeN D em e y.1).2), (s9, lists y.2.1 (takeN D em e y.1).1)]) (fun y => y.2.2)
    (fun y => (y.1 : Int) ≤ e ∧ Hp σb (.t y.2.1 :: .o ib (.cells (buC im)) :: .o im (.map es) :: .o ip (.cells (peC (.ms r 1 0 D.length) is e ig fi)) :: .o is (.cells [spL tk l]) :: .o ig (.map em) :: .o r (.cells (D.map byteV)) :: G) y.2.2) (fun y => e.toNat + 1 - y.1)
    (0, .full, σ) ⟨by omega, H⟩ (Sub.refl _) ?_ ?_
  · (refine wX ?_)
    (repeat' first | with_reducible exact EnvLe.refl _ | (refine EnvLe.node ?_ (by first | exact Or.inl rfl | exact Or.inr (Or.inl rfl) | exact Or.inr (Or.inr ⟨nofun, VLe.slice _ _ _⟩)) ?_))
  clear H
  rintro ⟨k, tk1, τ⟩ ⟨hk, H⟩
  dsimp only at hk H ⊢
  obtain ⟨hf, ho⟩ := takeN_le D em e k
  have hst : takeN D em e (k + 1) = if ((k : Int) + 1 = e ∨ hasE em ((k : Int) + 1) = true) then ((takeN D em e k).1 ++ [(D.take (k + 1)).drop (takeN D em e k).2], k + 1) else takeN D em e k := rfl
  (refine wX ?_)
  (repeat ((first | refine zI (by omega) ?_ | refine zE (by omega) (by omega) ?_ | refine zD (by omega) (by omega) ?_ | refine zY (by omega) ?_ | refine zN (by omega) ?_ | refine amin ?_ | refine amax ?_ | refine zU (by omega) ?_ | refine z8 (by omega) ?_ | refine zX (by omega) (by omega) ?_ | refine zR rfl ?_ | refine acellA ?_ | (apply zL H; (· repeat first | exact .h | apply AtK.t); (· rfl)) | (apply zA H; (· repeat first | exact .h | apply AtK.t)) | (apply zS H; (· repeat first | exact .h | apply AtK.t); (· rfl); (conv => whnf); clear H; intro τ H) | rw [List.length_map]); (refine wX ?_)))
  by_cases hlt : (k : Int) + 1 ≤ e
  · (repeat ((first | refine zI (by omega) ?_ | refine zE (by omega) (by omega) ?_ | refine zD (by omega) (by omega) ?_ | refine zY (by omega) ?_ | refine zN (by omega) ?_ | refine amin ?_ | refine amax ?_ | refine zU (by omega) ?_ | refine z8 (by omega) ?_ | refine zX (by omega) (by omega) ?_ | refine zR rfl ?_ | refine acellA ?_ | (apply zL H; (· repeat first | exact .h | apply AtK.t); (· rfl)) | (apply zA H; (· repeat first | exact .h | apply AtK.t)) | (apply zS H; (· repeat first | exact .h | apply AtK.t); (· rfl); (conv => whnf); clear H; intro τ H) | rw [List.length_map]); (refine wX ?_)))
    by_cases hke : (k : Int) + 1 = e
    · have hs1 : takeN D em e (k + 1) = ((takeN D em e k).1 ++ [(D.take (k + 1)).drop (takeN D em e k).2], k + 1) := by rw [hst, if_pos (.inl hke)]
      (repeat ((first | refine zI (by omega) ?_ | refine zE (by omega) (by omega) ?_ | refine zD (by omega) (by omega) ?_ | refine zY (by omega) ?_ | refine zN (by omega) ?_ | refine amin ?_ | refine amax ?_ | refine zU (by omega) ?_ | refine z8 (by omega) ?_ | refine zX (by omega) (by omega) ?_ | refine zR rfl ?_ | refine acellA ?_ | (apply zL H; (· repeat first | exact .h | apply AtK.t); (· rfl)) | (apply zA H; (· repeat first | exact .h | apply AtK.t)) | (apply zS H; (· repeat first | exact .h | apply AtK.t); (· rfl); (conv => whnf); clear H; intro τ H) | rw [List.length_map]); (refine wX ?_)))
      refine acut (by omega) (by omega) (by omega) ?_
      (refine wX ?_)
      refine acutm (b := D) ⟨D, H.get (k := 6) rfl, by omega, by simp⟩ (by omega) (by omega) fun w hw2 => ?_
      rw [show ((k : Int) + 1).toNat = k + 1 by omega, Int.toNat_natCast] at hw2
      (refine wX ?_)
      refine acall_less (CloneS w _ τ hw2 (by rw [List.length_drop, List.length_take]; omega)) ?_
      rintro _ σ4 ⟨tk3, ho3, rfl⟩
      refine ⟨sl .none ((D.take (k + 1)).drop (takeN D em e k).2), τ, VLe.slice _ _ _, ho3.sub, ?_, Ext.refl _⟩
      (refine wX ?_)
      apply zP H
      · (repeat first | exact .h | apply AtK.t)
      · exact (by rw [List.length_map]; show (_ + 1) * 24 ≤ _; omega)
      intro tk2
      (conv => whnf)
      clear H
      intro τ H
      (refine wX ?_)
      rw [show (takeN D em e k).1.map (sl .none) ++ [sl .none ((D.take (k + 1)).drop (takeN D em e k).2)] = (takeN D em e (k + 1)).1.map (sl .none) by rw [hs1]; simp]
      (repeat ((first | refine zI (by omega) ?_ | refine zE (by omega) (by omega) ?_ | refine zD (by omega) (by omega) ?_ | refine zY (by omega) ?_ | refine zN (by omega) ?_ | refine amin ?_ | refine amax ?_ | refine zU (by omega) ?_ | refine z8 (by omega) ?_ | refine zX (by omega) (by omega) ?_ | refine zR rfl ?_ | refine acellA ?_ | (apply zL H; (· repeat first | exact .h | apply AtK.t); (· rfl)) | (apply zA H; (· repeat first | exact .h | apply AtK.t)) | (apply zS H; (· repeat first | exact .h | apply AtK.t); (· rfl); (conv => whnf); clear H; intro τ H) | rw [List.length_map]); (refine wX ?_)))
      refine ⟨(k + 1, tk2, τ), ⟨by dsimp only; omega, H⟩, by dsimp only; omega, Sub.refl _, ?_⟩
      rw [show (((k + 1 : Nat) : Int)) = (k : Int) + 1 by omega]
      (refine wX ?_)
      rw [show (takeN D em e (k + 1)).2 = k + 1 by rw [hs1]]
      (repeat' first | with_reducible exact EnvLe.refl _ | (refine EnvLe.node ?_ (by first | exact Or.inl rfl | exact Or.inr (Or.inl rfl) | exact Or.inr (Or.inr ⟨nofun, VLe.slice _ _ _⟩)) ?_))
    · (repeat ((first | refine zI (by omega) ?_ | refine zE (by omega) (by omega) ?_ | refine zD (by omega) (by omega) ?_ | refine zY (by omega) ?_ | refine zN (by omega) ?_ | refine amin ?_ | refine amax ?_ | refine zU (by omega) ?_ | refine z8 (by omega) ?_ | refine zX (by omega) (by omega) ?_ | refine zR rfl ?_ | refine acellA ?_ | (apply zL H; (· repeat first | exact .h | apply AtK.t); (· rfl)) | (apply zA H; (· repeat first | exact .h | apply AtK.t)) | (apply zS H; (· repeat first | exact .h | apply AtK.t); (· rfl); (conv => whnf); clear H; intro τ H) | rw [List.length_map]); (refine wX ?_)))
      refine hlook H (k := 5) rfl ?_
      rw [look_edge hem]
      rcases (show hasE em ((k : Int) + 1) = false ∨ hasE em ((k : Int) + 1) = true by cases hasE em ((k : Int) + 1) <;> simp) with hh | hh
      · have hs1 : takeN D em e (k + 1) = takeN D em e k := by rw [hst, if_neg (by rw [hh]; simp [hke])]
        rw [hh]
        (refine wX ?_)
        (repeat ((first | refine zI (by omega) ?_ | refine zE (by omega) (by omega) ?_ | refine zD (by omega) (by omega) ?_ | refine zY (by omega) ?_ | refine zN (by omega) ?_ | refine amin ?_ | refine amax ?_ | refine zU (by omega) ?_ | refine z8 (by omega) ?_ | refine zX (by omega) (by omega) ?_ | refine zR rfl ?_ | refine acellA ?_ | (apply zL H; (· repeat first | exact .h | apply AtK.t); (· rfl)) | (apply zA H; (· repeat first | exact .h | apply AtK.t)) | (apply zS H; (· repeat first | exact .h | apply AtK.t); (· rfl); (conv => whnf); clear H; intro τ H) | rw [List.length_map]); (refine wX ?_)))
        refine ⟨(k + 1, tk1, τ), ⟨by dsimp only; omega, H⟩, by dsimp only; omega, Sub.refl _, ?_⟩
        rw [show (((k + 1 : Nat) : Int)) = (k : Int) + 1 by omega]
        (refine wX ?_)
        rw [hs1]
        (repeat' first | with_reducible exact EnvLe.refl _ | (refine EnvLe.node ?_ (by first | exact Or.inl rfl | exact Or.inr (Or.inl rfl) | exact Or.inr (Or.inr ⟨nofun, VLe.slice _ _ _⟩)) ?_))
      · have hs1 : takeN D em e (k + 1) = ((takeN D em e k).1 ++ [(D.take (k + 1)).drop (takeN D em e k).2], k + 1) := by rw [hst, if_pos (.inr hh)]
        rw [hh]
        (refine wX ?_)
        (repeat ((first | refine zI (by omega) ?_ | refine zE (by omega) (by omega) ?_ | refine zD (by omega) (by omega) ?_ | refine zY (by omega) ?_ | refine zN (by omega) ?_ | refine amin ?_ | refine amax ?_ | refine zU (by omega) ?_ | refine z8 (by omega) ?_ | refine zX (by omega) (by omega) ?_ | refine zR rfl ?_ | refine acellA ?_ | (apply zL H; (· repeat first | exact .h | apply AtK.t); (· rfl)) | (apply zA H; (· repeat first | exact .h | apply AtK.t)) | (apply zS H; (· repeat first | exact .h | apply AtK.t); (· rfl); (conv => whnf); clear H; intro τ H) | rw [List.length_map]); (refine wX ?_)))
        refine acut (by omega) (by omega) (by omega) ?_
        (refine wX ?_)
        refine acutm (b := D) ⟨D, H.get (k := 6) rfl, by omega, by simp⟩ (by omega) (by omega) fun w hw2 => ?_
        rw [show ((k : Int) + 1).toNat = k + 1 by omega, Int.toNat_natCast] at hw2
        (refine wX ?_)
        refine acall_less (CloneS w _ τ hw2 (by rw [List.length_drop, List.length_take]; omega)) ?_
        rintro _ σ4 ⟨tk3, ho3, rfl⟩
        refine ⟨sl .none ((D.take (k + 1)).drop (takeN D em e k).2), τ, VLe.slice _ _ _, ho3.sub, ?_, Ext.refl _⟩
        (refine wX ?_)
        apply zP H
        · (repeat first | exact .h | apply AtK.t)
        · exact (by rw [List.length_map]; show (_ + 1) * 24 ≤ _; omega)
        intro tk2
        (conv => whnf)
        clear H
        intro τ H
        (refine wX ?_)
        rw [show (takeN D em e k).1.map (sl .none) ++ [sl .none ((D.take (k + 1)).drop (takeN D em e k).2)] = (takeN D em e (k + 1)).1.map (sl .none) by rw [hs1]; simp]
        (repeat ((first | refine zI (by omega) ?_ | refine zE (by omega) (by omega) ?_ | refine zD (by omega) (by omega) ?_ | refine zY (by omega) ?_ | refine zN (by omega) ?_ | refine amin ?_ | refine amax ?_ | refine zU (by omega) ?_ | refine z8 (by omega) ?_ | refine zX (by omega) (by omega) ?_ | refine zR rfl ?_ | refine acellA ?_ | (apply zL H; (· repeat first | exact .h | apply AtK.t); (· rfl)) | (apply zA H; (· repeat first | exact .h | apply AtK.t)) | (apply zS H; (· repeat first | exact .h | apply AtK.t); (· rfl); (conv => whnf); clear H; intro τ H) | rw [List.length_map]); (refine wX ?_)))
        refine ⟨(k + 1, tk2, τ), ⟨by dsimp only; omega, H⟩, by dsimp only; omega, Sub.refl _, ?_⟩
        rw [show (((k + 1 : Nat) : Int)) = (k : Int) + 1 by omega]
        (refine wX ?_)
        rw [show (takeN D em e (k + 1)).2 = k + 1 by rw [hs1]]
        (repeat' first | with_reducible exact EnvLe.refl _ | (refine EnvLe.node ?_ (by first | exact Or.inl rfl | exact Or.inr (Or.inl rfl) | exact Or.inr (Or.inr ⟨nofun, VLe.slice _ _ _⟩)) ?_))
  · obtain rfl : k = e.toNat := by omega
    (repeat ((first | refine zI (by omega) ?_ | refine zE (by omega) (by omega) ?_ | refine zD (by omega) (by omega) ?_ | refine zY (by omega) ?_ | refine zN (by omega) ?_ | refine amin ?_ | refine amax ?_ | refine zU (by omega) ?_ | refine z8 (by omega) ?_ | refine zX (by omega) (by omega) ?_ | refine zR rfl ?_ | refine acellA ?_ | (apply zL H; (· repeat first | exact .h | apply AtK.t); (· rfl)) | (apply zA H; (· repeat first | exact .h | apply AtK.t)) | (apply zS H; (· repeat first | exact .h | apply AtK.t); (· rfl); (conv => whnf); clear H; intro τ H) | rw [List.length_map]); (refine wX ?_)))
    apply zMd H
    · (repeat first | exact .h | apply AtK.t)
    (conv => whnf)
    clear H
    intro τ H
    (refine wX ?_)
    (repeat ((first | refine zI (by omega) ?_ | refine zE (by omega) (by omega) ?_ | refine zD (by omega) (by omega) ?_ | refine zY (by omega) ?_ | refine zN (by omega) ?_ | refine amin ?_ | refine amax ?_ | refine zU (by omega) ?_ | refine z8 (by omega) ?_ | refine zX (by omega) (by omega) ?_ | refine zR rfl ?_ | refine acellA ?_ | (apply zL H; (· repeat first | exact .h | apply AtK.t); (· rfl)) | (apply zA H; (· repeat first | exact .h | apply AtK.t)) | (apply zS H; (· repeat first | exact .h | apply AtK.t); (· rfl); (conv => whnf); clear H; intro τ H) | rw [List.length_map]); (refine wX ?_)))
    refine aret (VLe.tup (VLe.cons (VLe.refl _) (VLe.cons (VLe.slice _ _ _) (fun _ _ h => h)))) (Sub.refl _) ⟨rfl, H.tail⟩
end
end Go.Proofs.Ytgobbmdbkmjlnaa
/-
  What came in parts: how many bytes are there.
-/
namespace Go.Proofs.Ytgobbmdbkmjlnaa
set_option linter.unusedVariables false
set_option linter.unusedSimpArgs false
open Go Go.Am

/-- What is there, of each piece. -/
structure KeptB (σ : AHeap) (es : List (Int × AVal)) (dl : Int → List Sp) : Prop where
  at_ : ∀ e ∈ es, ∃ ip v is ed ig fi tk, e.2 = .ptr ip 0 ∧ σ ip = some (.cells (peC v is ed ig fi)) ∧ σ is = some (.cells [spL tk (dl e.1)]) ∧ SOk (dl e.1)
set_option maxRecDepth 20000 in
theorem buBytes {σ : AHeap} {ib im : Nat} {es : List (Int × AVal)} {dl : Int → List Sp} (b1 : σ ib = some (.cells (buC im))) (b2 : σ im = some (.map es)) (hn : es.length ≤ 100000) (hw : ∀ e ∈ es, inR e.1) (hk : KeptB σ es dl) :
    ACalls Try.prog i_rxbuf_Buffer_Bytes [.ptr ib 0] σ fun v σ' => v = i64v (dueSum dl (es.map (·.1))) ∧ σ' = σ := by
  refine k_rxbuf_Buffer_Bytes rfl ?_
  have H := Hp.nil σ
  (refine wX ?_)
  refine acall (buNumbers b1 b2 (by omega) hw) ?_
  rintro _ σ_ ⟨rfl, e_⟩
  obtain rfl := e_.symm
  refine ⟨?_, Ext.refl _⟩
  (refine wX ?_)
  obtain ⟨ks, hks⟩ : ∃ ks, ks = sortI (es.map (·.1)) := ⟨_, rfl⟩
  have hp : ks.Perm (es.map (·.1)) := hks ▸ sortI_perm _
  have hl : ks.length = es.length := by rw [hp.length_eq, List.length_map]
  rw [← hks, ← dueSum_perm hp]
  clear hks
  have hall : ∀ k ∈ ks, 0 ≤ cntL (dl k) ∧ cntL (dl k) ≤ 65536 := fun k hk' => by
    obtain ⟨e, he, _, rfl⟩ := find_key (hp.mem_iff.1 hk')
    obtain ⟨_, _, _, _, _, _, _, _, _, _, h⟩ := hk.at_ e he
    exact cntL_bound h
  (refine wX ?_)
  refine aloop (α := Nat × Int) (fun y => [(s9, i64v y.1), (s3, i64v y.2)]) (fun _ => σ) (fun y => y.1 ≤ ks.length ∧ y.2 = dueSum dl (ks.take y.1) ∧ 0 ≤ y.2 ∧ y.2 ≤ 65536 * (y.1 : Int)) (fun y => ks.length - y.1)
    (0, 0) ⟨Nat.zero_le _, rfl, by omega, by omega⟩ (Sub.refl _) ?_ ?_
  · (refine wX ?_)
    (repeat' first | with_reducible exact EnvLe.refl _ | (refine EnvLe.node ?_ (by first | exact Or.inl rfl | exact Or.inr (Or.inl rfl) | exact Or.inr (Or.inr ⟨nofun, VLe.slice _ _ _⟩)) ?_))
  rintro ⟨i, n⟩ ⟨hi, he, h0, h1⟩
  dsimp only at hi he h0 h1 ⊢
  (refine wX ?_)
  rw [List.length_map]
  by_cases h : i < ks.length
  · (repeat ((first | refine zI (by omega) ?_ | refine zE (by omega) (by omega) ?_ | refine zD (by omega) (by omega) ?_ | refine zY (by omega) ?_ | refine zN (by omega) ?_ | refine amin ?_ | refine amax ?_ | refine zU (by omega) ?_ | refine z8 (by omega) ?_ | refine zX (by omega) (by omega) ?_ | refine zR rfl ?_ | refine acellA ?_ | refine zB H b1 rfl ?_ | refine zC H b1 ?_ | refine zB H b2 rfl ?_ | refine zC H b2 ?_ | (apply zL H; (· repeat first | exact .h | apply AtK.t); (· rfl)) | (apply zA H; (· repeat first | exact .h | apply AtK.t)) | (apply zS H; (· repeat first | exact .h | apply AtK.t); (· rfl); (conv => whnf); clear H; intro τ H) | rw [List.length_map]); (refine wX ?_)))
    refine aget (by omega) (get_ints' h) ?_
    (refine wX ?_)
    refine acell rfl ?_
    (refine wX ?_)
    obtain ⟨e, hem, hf, hek⟩ := find_key (hp.mem_iff.1 (List.getElem_mem h))
    obtain ⟨ip, v, is, ed, ig, fi, tk, g1, g2, g3, g4⟩ := hk.at_ e hem
    have hb := hall ks[i] (List.getElem_mem h)
    (repeat ((first | refine zI (by omega) ?_ | refine zE (by omega) (by omega) ?_ | refine zD (by omega) (by omega) ?_ | refine zY (by omega) ?_ | refine zN (by omega) ?_ | refine amin ?_ | refine amax ?_ | refine zU (by omega) ?_ | refine z8 (by omega) ?_ | refine zX (by omega) (by omega) ?_ | refine zR rfl ?_ | refine acellA ?_ | refine zB H b1 rfl ?_ | refine zC H b1 ?_ | refine zB H b2 rfl ?_ | refine zC H b2 ?_ | (apply zL H; (· repeat first | exact .h | apply AtK.t); (· rfl)) | (apply zA H; (· repeat first | exact .h | apply AtK.t)) | (apply zS H; (· repeat first | exact .h | apply AtK.t); (· rfl); (conv => whnf); clear H; intro τ H) | rw [List.length_map]); (refine wX ?_)))
    refine hlookB H b2 ?_
    rw [hf]
    obtain ⟨ek, ev⟩ := e
    dsimp only at hek g1 g3 g4
    subst g1
    (refine wX ?_)
    refine zB H g2 rfl ?_
    (refine wX ?_)
    refine acall (sCount g3 g4.mid g4.mem) ?_
    rintro _ σ_ ⟨rfl, e_⟩
    obtain rfl := e_.symm
    refine ⟨?_, Ext.refl _⟩
    (refine wX ?_)
    rw [hek]
    (repeat ((first | refine zI (by omega) ?_ | refine zE (by omega) (by omega) ?_ | refine zD (by omega) (by omega) ?_ | refine zY (by omega) ?_ | refine zN (by omega) ?_ | refine amin ?_ | refine amax ?_ | refine zU (by omega) ?_ | refine z8 (by omega) ?_ | refine zX (by omega) (by omega) ?_ | refine zR rfl ?_ | refine acellA ?_ | refine zB H b1 rfl ?_ | refine zC H b1 ?_ | refine zB H b2 rfl ?_ | refine zC H b2 ?_ | (apply zL H; (· repeat first | exact .h | apply AtK.t); (· rfl)) | (apply zA H; (· repeat first | exact .h | apply AtK.t)) | (apply zS H; (· repeat first | exact .h | apply AtK.t); (· rfl); (conv => whnf); clear H; intro τ H) | rw [List.length_map]); (refine wX ?_)))
    refine ⟨(i + 1, n + cntL (dl ks[i])), ⟨h, ?_, ?_, ?_⟩, by dsimp only; omega, Sub.refl _, ?_⟩
    · dsimp only; rw [dueSum_take h, he]
    · dsimp only; omega
    · dsimp only; omega
    · (refine wX ?_)
      (repeat' first | with_reducible exact EnvLe.refl _ | (refine EnvLe.node ?_ (by first | exact Or.inl rfl | exact Or.inr (Or.inl rfl) | exact Or.inr (Or.inr ⟨nofun, VLe.slice _ _ _⟩)) ?_))
  · obtain rfl : i = ks.length := by omega
    rw [List.take_length] at he
    (repeat ((first | refine zI (by omega) ?_ | refine zE (by omega) (by omega) ?_ | refine zD (by omega) (by omega) ?_ | refine zY (by omega) ?_ | refine zN (by omega) ?_ | refine amin ?_ | refine amax ?_ | refine zU (by omega) ?_ | refine z8 (by omega) ?_ | refine zX (by omega) (by omega) ?_ | refine zR rfl ?_ | refine acellA ?_ | refine zB H b1 rfl ?_ | refine zC H b1 ?_ | refine zB H b2 rfl ?_ | refine zC H b2 ?_ | (apply zL H; (· repeat first | exact .h | apply AtK.t); (· rfl)) | (apply zA H; (· repeat first | exact .h | apply AtK.t)) | (apply zS H; (· repeat first | exact .h | apply AtK.t); (· rfl); (conv => whnf); clear H; intro τ H) | rw [List.length_map]); (refine wX ?_)))
    exact aret (VLe.refl _) H.sub ⟨by rw [he], rfl⟩
end Go.Proofs.Ytgobbmdbkmjlnaa
/-
  What came in parts: a buffer, whatever pieces it has.
-/
namespace Go.Proofs.Ytgobbmdbkmjlnaa
set_option linter.unusedVariables false
set_option linter.unusedSimpArgs false
set_option maxRecDepth 20000
open Go Go.Am

/-- A piece: its number, its bytes, what is there, its end, where fields begin, its FI. -/
structure PV where
  sn : Int
  D : List UInt8
  l : List Sp
  e : Int
  em : List (Int × AVal)
  fi : Int
structure PV.Ok (x : PV) : Prop where
  so : SOk x.l
  inD : ∀ y ∈ x.l, y.2 ≤ (x.D.length : Int)
  dl : x.D.length ≤ 4000
  em : AllT x.em
  sn : inR x.sn
/-- A piece in the heap. -/
structure PX where
  pv : PV
  ip : Nat
  is : Nat
  ig : Nat
  v : AVal
  E : List HE
  tk : Tok
abbrev PX.hd (x : PX) : List HE := [.o x.ip (.cells (peC x.v x.is x.pv.e x.ig x.pv.fi)), .o x.is (.cells [spL x.tk x.pv.l]), .o x.ig (.map x.pv.em)]
def flatX : List PX → List HE
  | [] => []
  | x :: X => x.hd ++ (x.E ++ flatX X)
theorem flatX_append : ∀ (A B : List PX), flatX (A ++ B) = flatX A ++ flatX B
  | [], B => rfl
  | x :: A, B => by
    show x.hd ++ (x.E ++ flatX (A ++ B)) = (x.hd ++ (x.E ++ flatX A)) ++ flatX B
    rw [flatX_append A B, List.append_assoc, List.append_assoc]
abbrev esX (X : List PX) : List (Int × AVal) := X.map fun x => (x.pv.sn, .ptr x.ip 0)
abbrev XL (ib im : Nat) (X : List PX) (G : List HE) : List HE := .o ib (.cells (buC im)) :: .o im (.map (esX X)) :: (flatX X ++ G)
structure XOk (X : List PX) : Prop where
  nd : (X.map (·.pv.sn)).Nodup
  ok : ∀ x ∈ X, x.pv.Ok
  rb : ∀ x ∈ X, RB x.v x.pv.D x.E
  len : X.length ≤ 10000
def findS (S : List PV) (sn : Int) : Option PV := S.find? fun x => x.sn == sn
def lS (S : List PV) (sn : Int) : List Sp := match findS S sn with
  | some x => x.l
  | none => []
def eS (S : List PV) (sn : Int) : Int := match findS S sn with
  | some x => x.e
  | none => -1
def wholeS (S : List PV) (sn : Int) : Bool := match findS S sn with
  | some x => wholeV x.l x.e
  | none => false
def missS (S : List PV) (sn : Int) : List Sp := match findS S sn with
  | some x => missL x.l x.e
  | none => []
def bytesS (S : List PV) : Int := (S.map fun x => cntL x.l).sum
def updV (x : PV) (p : Pk) : PV := ⟨x.sn, fillB x.l p.off.toNat p.fs.flatten x.D, addS (spanP p) x.l, noteE p (endsB p) x.e, noteM p (endsB p) x.em, noteF p (endsB p) x.fi⟩
def freshV (sn : Int) : PV := ⟨sn, [], [], -1, [], 0⟩
def putS (S : List PV) (p : Pk) : Int := putK p (lS S p.sn) (eS S p.sn)
def putV (S : List PV) (p : Pk) : List PV :=
  if putS S p ≠ 0 then S else match findS S p.sn with
    | some _ => S.map fun x => if x.sn = p.sn then updV x p else x
    | none => S ++ [updV (freshV p.sn) p]
abbrev pvs (X : List PX) : List PV := X.map (·.pv)

theorem findX {X : List PX} (hnd : (X.map (·.pv.sn)).Nodup) (sn : Int) :
    (∃ A x B, X = A ++ x :: B ∧ x.pv.sn = sn ∧ (esX X).find? (fun e => e.1 == sn) = some (sn, .ptr x.ip 0) ∧ findS (pvs X) sn = some x.pv ∧ (∀ y ∈ A, y.pv.sn ≠ sn) ∧ (∀ y ∈ B, y.pv.sn ≠ sn)) ∨
    ((∀ x ∈ X, x.pv.sn ≠ sn) ∧ (esX X).find? (fun e => e.1 == sn) = none ∧ findS (pvs X) sn = none) := by
  induction X with
  | nil => exact .inr ⟨nofun, rfl, rfl⟩
  | cons a X ih =>
    rw [List.map_cons, List.nodup_cons] at hnd
    by_cases h : a.pv.sn = sn
    · refine .inl ⟨[], a, X, rfl, h, ?_, ?_, nofun, fun y hy e => hnd.1 (by rw [h, ← e]; exact List.mem_map_of_mem (f := fun x : PX => x.pv.sn) hy)⟩
      · show List.find? _ ((a.pv.sn, AVal.ptr a.ip 0) :: esX X) = _
        rw [List.find?_cons]; simp [h]
      · show List.find? _ (a.pv :: pvs X) = _
        rw [List.find?_cons]; simp [h]
    · have hb : (a.pv.sn == sn) = false := by simp [h]
      have q1 : (esX (a :: X)).find? (fun e => e.1 == sn) = (esX X).find? (fun e => e.1 == sn) := by
        show List.find? _ ((a.pv.sn, AVal.ptr a.ip 0) :: esX X) = _
        rw [List.find?_cons]; dsimp only; rw [hb]
      have q2 : findS (pvs (a :: X)) sn = findS (pvs X) sn := by
        show List.find? _ (a.pv :: pvs X) = _
        rw [List.find?_cons, hb]; rfl
      rw [q1, q2]
      rcases ih hnd.2 with ⟨A, x, B, rfl, h1, h2, h3, h4, h5⟩ | ⟨h1, h2, h3⟩
      · refine .inl ⟨a :: A, x, B, rfl, h1, h2, h3, fun y hy => ?_, h5⟩
        rcases List.mem_cons.1 hy with rfl | hy
        · exact h
        · exact h4 y hy
      · refine .inr ⟨fun y hy => ?_, h2, h3⟩
        rcases List.mem_cons.1 hy with rfl | hy
        · exact h
        · exact h1 y hy
section
variable {σb σ : AHeap} {ib im : Nat} {X A B : List PX} {x : PX} {G : List HE} {o1 o2 : HE}
theorem XL.outX (H : Hp σb (o1 :: o2 :: (flatX (A ++ x :: B) ++ G)) σ) : Hp σb (x.hd ++ (o1 :: o2 :: (x.E ++ (flatX A ++ (flatX B ++ G))))) σ := by
  rw [flatX_append, show flatX (x :: B) = x.hd ++ (x.E ++ flatX B) from rfl, List.append_assoc, List.append_assoc, List.append_assoc] at H
  have H := Hp.mid2 (A := [o1, o2]) (B := flatX A) (C := x.hd) H
  have H := Hp.mid2 (A := [o1, o2] ++ x.hd) (B := flatX A) (C := x.E) (D := flatX B ++ G) (by rw [List.append_assoc]; exact H)
  rw [List.append_assoc] at H
  exact Hp.mid (A := [o1, o2]) (B := x.hd) H
theorem XL.backX (H : Hp σb (x.hd ++ (o1 :: o2 :: (x.E ++ (flatX A ++ (flatX B ++ G))))) σ) : Hp σb (o1 :: o2 :: (flatX (A ++ x :: B) ++ G)) σ := by
  rw [flatX_append, show flatX (x :: B) = x.hd ++ (x.E ++ flatX B) from rfl, List.append_assoc, List.append_assoc, List.append_assoc]
  have H := Hp.mid (A := x.hd) (B := [o1, o2]) H
  have H := Hp.mid2 (A := [o1, o2] ++ x.hd) (B := x.E) (C := flatX A) (D := flatX B ++ G) (by rw [List.append_assoc]; exact H)
  rw [List.append_assoc] at H
  exact Hp.mid2 (A := [o1, o2]) (B := x.hd) (C := flatX A) H
theorem XL.at_ (H : Hp σb (XL ib im X G) σ) (hx : x ∈ X) : σ x.ip = some (.cells (peC x.v x.is x.pv.e x.ig x.pv.fi)) ∧ σ x.is = some (.cells [spL x.tk x.pv.l]) := by
  obtain ⟨A, B, rfl⟩ := List.append_of_mem hx
  have K := XL.outX H
  exact ⟨K.get (k := 0) rfl, K.get (k := 1) rfl⟩
theorem xWhole (H : Hp σb (XL ib im X G) σ) (ok : XOk X) (sn : Int) : ACalls Try.prog i_rxbuf_Buffer_Whole [.ptr ib 0, i64v sn] σ fun v σ' => v = boolv (wholeS (pvs X) sn) ∧ σ' = σ := by
  unfold wholeS
  rcases findX ok.nd sn with ⟨A, x, B, hX, h1, h2, h3, _⟩ | ⟨h1, h2, h3⟩
  · have hx : x ∈ X := by rw [hX]; simp
    rw [h3]
    obtain ⟨g1, g2⟩ := XL.at_ H hx
    exact buWhole (H.get (k := 0) rfl) (H.get (k := 1) rfl) sn h2 g1 g2 (ok.ok x hx).so.mid
  · rw [h3]
    exact buWholeNone (H.get (k := 0) rfl) (H.get (k := 1) rfl) sn h2
theorem xMissing (H : Hp σb (XL ib im X G) σ) (ok : XOk X) (sn : Int) : ACalls Try.prog i_rxbuf_Buffer_Missing [.ptr ib 0, i64v sn] σ fun v σ' => v = spL .none (missS (pvs X) sn) ∧ σ' = σ := by
  unfold missS
  rcases findX ok.nd sn with ⟨A, x, B, hX, h1, h2, h3, _⟩ | ⟨h1, h2, h3⟩
  · have hx : x ∈ X := by rw [hX]; simp
    rw [h3]
    obtain ⟨g1, g2⟩ := XL.at_ H hx
    refine acall_less (buMissing (H.get (k := 0) rfl) (H.get (k := 1) rfl) sn h2 g1 g2 (ok.ok x hx).so) ?_
    rintro _ σ' ⟨u, hu, rfl⟩
    exact ⟨_, σ, VLe.slice _ _ _, hu.sub, rfl, rfl⟩
  · rw [h3]
    refine acall_less (buMissingNone (H.get (k := 0) rfl) (H.get (k := 1) rfl) sn h2) ?_
    rintro _ σ' ⟨rfl, rfl⟩
    exact ⟨_, _, VLe.slice _ _ _, Sub.refl _, rfl, rfl⟩
theorem lS_of {x : PX} (ok : XOk X) (hx : x ∈ X) : lS (pvs X) x.pv.sn = x.pv.l := by
  unfold lS
  rcases findX ok.nd x.pv.sn with ⟨A, y, B, hX, h1, h2, h3, h4, h5⟩ | ⟨h1, _⟩
  · rw [h3]
    rw [hX] at hx
    rcases List.mem_append.1 hx with hx | hx
    · exact absurd rfl (h4 x hx)
    · rcases List.mem_cons.1 hx with rfl | hx
      · rfl
      · exact absurd rfl (h5 x hx)
  · exact absurd rfl (h1 x hx)
theorem xBytes (H : Hp σb (XL ib im X G) σ) (ok : XOk X) : ACalls Try.prog i_rxbuf_Buffer_Bytes [.ptr ib 0] σ fun v σ' => v = i64v (bytesS (pvs X)) ∧ σ' = σ := by
  have := buBytes (dl := lS (pvs X)) (H.get (k := 0) rfl) (H.get (k := 1) rfl) (by rw [List.length_map]; have := ok.len; omega) (fun e he => by obtain ⟨x, hx, rfl⟩ := List.mem_map.1 he; exact (ok.ok x hx).sn)
    ⟨fun e he => by
      obtain ⟨x, hx, rfl⟩ := List.mem_map.1 he
      obtain ⟨g1, g2⟩ := XL.at_ H hx
      exact ⟨x.ip, x.v, x.is, x.pv.e, x.ig, x.pv.fi, x.tk, rfl, g1, by rw [lS_of ok hx]; exact g2, by rw [lS_of ok hx]; exact (ok.ok x hx).so⟩⟩
  have e : dueSum (lS (pvs X)) ((esX X).map (·.1)) = bytesS (pvs X) := by
    unfold dueSum bytesS
    rw [List.map_map, List.map_map, List.map_map]
    congr 1
    refine List.map_congr_left fun x hx => ?_
    show cntL (lS (pvs X) x.pv.sn) = cntL x.pv.l
    rw [lS_of ok hx]
  rw [e] at this
  exact this
end
end Go.Proofs.Ytgobbmdbkmjlnaa
/-
  What came in parts: what Put and Take do with a buffer, whatever pieces it has.
-/
namespace Go.Proofs.Ytgobbmdbkmjlnaa
set_option linter.unusedVariables false
set_option linter.unusedSimpArgs false
set_option maxRecDepth 20000
open Go Go.Am

theorem putK_zero {p : Pk} {l : List Sp} {e : Int} (h : putK p l e = 0) : rightB p = true ∧ fitsC l e (spanP p) (endsB p) = 0 ∧ addC (spanP p) l = 0 := by
  unfold putK at h
  split at h
  · cases h
  · rename_i hr
    have hr : rightB p = true := by simpa using hr
    split at h
    · rename_i hc; exact absurd h hc
    · rename_i hc
      exact ⟨hr, Decidable.byContradiction hc, h⟩
theorem PV.Ok.upd {x : PV} (h : x.Ok) {p : Pk} (hk : putK p x.l x.e = 0) : (updV x p).Ok := by
  obtain ⟨hr, hc, ha⟩ := putK_zero hk
  obtain ⟨g1, g2, g3, g4, g5, g6, g7, g8, g9⟩ := right_ok hr
  have htl : p.fs.flatten.length = total p.fs := rfl
  have hlen : (fillB x.l p.off.toNat p.fs.flatten x.D).length = max x.D.length (p.off.toNat + p.fs.flatten.length) := fillB_len _ _ _ _
  have hdl := h.dl
  refine ⟨h.so.add _, fun y hy => ?_, ?_, h.em.noteM, h.sn⟩
  · have hn := (h.so.add (spanP p)).n.mem hy
    have hp : hasP (addS (spanP p) x.l) (y.2 - 1) := ⟨y, hy, by omega, by omega⟩
    show y.2 ≤ ((fillB x.l p.off.toNat p.fs.flatten x.D).length : Int)
    rw [hlen]
    rcases (add_has h.so ha _).1 hp with ⟨z, hz, h1, h2⟩ | ⟨h1, h2⟩
    · have := h.inD z hz; omega
    · unfold spanP at h2; dsimp only at h2; omega
  · show (fillB x.l p.off.toNat p.fs.flatten x.D).length ≤ 4000
    rw [hlen]; omega
theorem PV.Ok.fresh {sn : Int} (h : inR sn) : (freshV sn).Ok := ⟨SOk.nil, nofun, by simp [freshV], nofun, h⟩
theorem map_upd {A B : List PV} {x : PV} {p : Pk} (hx : x.sn = p.sn) (hA : ∀ y ∈ A, y.sn ≠ p.sn) (hB : ∀ y ∈ B, y.sn ≠ p.sn) :
    (A ++ x :: B).map (fun x => if x.sn = p.sn then updV x p else x) = A ++ updV x p :: B := by
  have id_ : ∀ (L : List PV), (∀ y ∈ L, y.sn ≠ p.sn) → L.map (fun x => if x.sn = p.sn then updV x p else x) = L := by
    intro L hL
    induction L with
    | nil => rfl
    | cons a L ih => rw [List.map_cons, if_neg (hL a (List.mem_cons_self ..)), ih fun y hy => hL y (List.mem_cons_of_mem _ hy)]
  rw [List.map_append, List.map_cons, if_pos hx, id_ A hA, id_ B hB]
section
variable {σb σ : AHeap} {ib im : Nat} {X A B : List PX} {x : PX} {G : List HE}
theorem XOk.swap {x' : PX} (ok : XOk (A ++ x :: B)) (hs : x'.pv.sn = x.pv.sn) (h1 : x'.pv.Ok) (h2 : RB x'.v x'.pv.D x'.E) : XOk (A ++ x' :: B) := by
  refine ⟨?_, fun y hy => ?_, fun y hy => ?_, ?_⟩
  · have := ok.nd
    rw [List.map_append, List.map_cons] at this ⊢
    rw [hs]; exact this
  · rcases List.mem_append.1 hy with hy | hy
    · exact ok.ok y (by simp [hy])
    · rcases List.mem_cons.1 hy with rfl | hy
      · exact h1
      · exact ok.ok y (by simp [hy])
  · rcases List.mem_append.1 hy with hy | hy
    · exact ok.rb y (by simp [hy])
    · rcases List.mem_cons.1 hy with rfl | hy
      · exact h2
      · exact ok.rb y (by simp [hy])
  · have := ok.len
    simp at this ⊢; exact this
theorem xPut (H : Hp σb (XL ib im X G) σ) (ok : XOk X) (hlen : X.length < 10000) (p : Pk) (hl : p.fs.length ≤ 1000) (ht : total p.fs ≤ 1000000) (hsn : inR p.sn) :
    ACalls Try.prog i_rxbuf_Buffer_Put [.ptr ib 0, amV p] σ fun r σ' => r = i64v (putS (pvs X) p) ∧ ∃ X', Hp σb (XL ib im X' G) σ' ∧ pvs X' = putV (pvs X) p ∧ XOk X' ∧ X'.length ≤ X.length + 1 := by
  rcases findX ok.nd p.sn with ⟨A, x, B, hX, h1, h2, h3, h4, h5⟩ | ⟨h1, h2, h3⟩
  · have hx : x ∈ X := by rw [hX]; simp
    have hxo := ok.ok x hx
    have hdl := hxo.dl
    have hS : putS (pvs X) p = putK p x.pv.l x.pv.e := by unfold putS lS eS; rw [h3]
    have hV : putV (pvs X) p = if putK p x.pv.l x.pv.e ≠ 0 then pvs X else (pvs X).map fun x => if x.sn = p.sn then updV x p else x := by unfold putV; rw [hS, h3]
    rw [hS, hV]
    subst hX
    refine acall_less (buPutOld (ok.rb x hx) (XL.outX H) p h2 hxo.so (by omega) hl ht) ?_
    rintro _ σ' ⟨rfl, ⟨hk, u, K⟩ | ⟨hk, v2, E2, u, hr, K⟩⟩
    · refine ⟨_, _, VLe.refl _, Sub.refl _, rfl, A ++ { x with tk := u } :: B, ?_, ?_, ok.swap rfl hxo (ok.rb x hx), by simp⟩
      · have e : esX (A ++ { x with tk := u } :: B) = esX (A ++ x :: B) := by simp [esX]
        show Hp σb (.o ib (.cells (buC im)) :: .o im (.map (esX (A ++ { x with tk := u } :: B))) :: (flatX (A ++ { x with tk := u } :: B) ++ G)) σ'
        rw [e]
        exact XL.backX (x := { x with tk := u }) K
      · rw [if_pos hk]; simp [pvs]
    · have hpo := PV.Ok.upd hxo hk
      let x' : PX := ⟨updV x.pv p, x.ip, x.is, x.ig, v2, E2, u⟩
      refine ⟨_, _, VLe.refl _, Sub.refl _, rfl, A ++ x' :: B, ?_, ?_, ok.swap rfl hpo hr, by simp⟩
      · have e : esX (A ++ x' :: B) = esX (A ++ x :: B) := by simp [esX, x', updV]
        show Hp σb (.o ib (.cells (buC im)) :: .o im (.map (esX (A ++ x' :: B))) :: (flatX (A ++ x' :: B) ++ G)) σ'
        rw [e]
        exact XL.backX (x := x') K
      · rw [if_neg (by simpa using hk)]
        show (A ++ x' :: B).map (·.pv) = ((A ++ x :: B).map (·.pv)).map _
        rw [List.map_append, List.map_append, List.map_cons, List.map_cons]
        refine (map_upd h1 (fun y hy => ?_) (fun y hy => ?_)).symm
        · obtain ⟨z, hz, rfl⟩ := List.mem_map.1 hy; exact h4 z hz
        · obtain ⟨z, hz, rfl⟩ := List.mem_map.1 hy; exact h5 z hz
  · have hS : putS (pvs X) p = putK p [] (-1) := by unfold putS lS eS; rw [h3]
    have hV : putV (pvs X) p = if putK p [] (-1) ≠ 0 then pvs X else pvs X ++ [updV (freshV p.sn) p] := by unfold putV; rw [hS, h3]
    rw [hS, hV]
    refine acall_less (buPutNew H p h2 hl ht) ?_
    rintro _ σ' ⟨rfl, ⟨hk, K⟩ | ⟨hk, ip, is, ig, v2, E2, u, hr, K⟩⟩
    · exact ⟨_, _, VLe.refl _, Sub.refl _, rfl, X, K, by rw [if_pos hk], ok, by omega⟩
    · have hpo := PV.Ok.upd (PV.Ok.fresh hsn) (p := p) hk
      let x' : PX := ⟨updV (freshV p.sn) p, ip, is, ig, v2, E2, u⟩
      refine ⟨_, _, VLe.refl _, Sub.refl _, rfl, X ++ [x'], ?_, by rw [if_neg (by simpa using hk)]; simp [pvs, x'], ?_, by simp⟩
      · have e : esX (X ++ [x']) = esX X ++ [(p.sn, .ptr ip 0)] := by simp [esX, x', updV, freshV]
        show Hp σb (.o ib (.cells (buC im)) :: .o im (.map (esX (X ++ [x']))) :: (flatX (X ++ [x']) ++ G)) σ'
        rw [e]
        refine XL.backX (A := X) (B := []) (x := x') ?_
        exact Hp.mid2 (A := x'.hd ++ [.o ib (.cells (buC im)), .o im (.map (esX X ++ [(p.sn, .ptr ip 0)]))]) (B := []) (C := E2) (D := flatX X ++ G) K
      · refine ⟨?_, fun y hy => ?_, fun y hy => ?_, ?_⟩
        · rw [List.map_append]
          refine List.nodup_append.2 ⟨ok.nd, by simp, fun a ha b hb e => ?_⟩
          obtain ⟨z, hz, rfl⟩ := List.mem_map.1 ha
          simp [x', updV, freshV] at hb
          exact h1 z hz (by rw [e, hb])
        · rcases List.mem_append.1 hy with hy | hy
          · exact ok.ok y hy
          · rw [List.mem_singleton.1 hy]; exact hpo
        · rcases List.mem_append.1 hy with hy | hy
          · exact ok.rb y hy
          · rw [List.mem_singleton.1 hy]; exact hr
        · simp; omega
/-- What Take leaves. -/
def takeS (S : List PV) (sn : Int) : List PV := if wholeS S sn = true then S.filter fun x => decide (x.sn ≠ sn) else S
def takeC (S : List PV) (sn : Int) : Int := match findS S sn with
  | none => 4
  | some x => if wholeV x.l x.e = true then 0 else 8
def takeF (S : List PV) (sn : Int) : Int × List (List UInt8) := match findS S sn with
  | none => (0, [])
  | some x => if wholeV x.l x.e = true then (x.fi, (takeN x.D x.em x.e x.e.toNat).1) else (0, [])
theorem mapDel_split {A B : List PX} {x : PX} {sn : Int} (hx : x.pv.sn = sn) (hA : ∀ y ∈ A, y.pv.sn ≠ sn) : mapDel (esX (A ++ x :: B)) sn = esX (A ++ B) := by
  induction A with
  | nil => simp [esX, mapDel, hx]
  | cons a A ih =>
    have := ih fun y hy => hA y (List.mem_cons_of_mem _ hy)
    have h0 := hA a (List.mem_cons_self ..)
    simp [esX, mapDel, h0] at this ⊢
    exact this
theorem xTake (H : Hp σb (XL ib im X G) σ) (ok : XOk X) (sn : Int) :
    ACalls Try.prog i_rxbuf_Buffer_Take [.ptr ib 0, i64v sn] σ fun r σ' => r = .tup [i64v (takeF (pvs X) sn).1, lists .none (takeF (pvs X) sn).2, i64v (takeC (pvs X) sn)] ∧ ∃ X', Hp σb (XL ib im X' G) σ' ∧ pvs X' = takeS (pvs X) sn ∧ XOk X' ∧ X'.length ≤ X.length := by
  unfold takeF takeC takeS wholeS
  rcases findX ok.nd sn with ⟨A, x, B, hX, h1, h2, h3, h4, h5⟩ | ⟨h1, h2, h3⟩
  · have hx : x ∈ X := by rw [hX]; simp
    have hxo := ok.ok x hx
    have hdl := hxo.dl
    rw [h3]
    dsimp only
    rcases (show wholeV x.pv.l x.pv.e = false ∨ wholeV x.pv.l x.pv.e = true by cases wholeV x.pv.l x.pv.e <;> simp) with hw | hw
    · rw [if_neg (by rw [hw]; simp), if_neg (by rw [hw]; simp), if_neg (by rw [hw]; simp)]
      obtain ⟨g1, g2⟩ := XL.at_ H hx
      refine acall_less (buTakeShort (H.get (k := 0) rfl) (H.get (k := 1) rfl) sn h2 g1 g2 hxo.so hw) ?_
      rintro _ σ' ⟨rfl, rfl⟩
      exact ⟨_, _, VLe.tup (VLe.cons (VLe.refl _) (VLe.cons (VLe.slice _ _ _) fun _ _ h => h)), Sub.refl _, rfl, X, H, rfl, ok, Nat.le_refl _⟩
    · rw [if_pos hw, if_pos hw, if_pos hw]
      have hD : x.pv.e ≤ (x.pv.D.length : Int) := by
        unfold wholeV hasS at hw
        rw [Bool.and_eq_true, Bool.and_eq_true] at hw
        obtain ⟨y, hy, h⟩ := List.any_eq_true.1 hw.2.2
        have := hxo.inD y hy
        have := of_decide_eq_true h
        dsimp only at this
        omega
      subst hX
      have K := XL.outX H
      replace K : Hp σb (.o ib (.cells (buC im)) :: .o im (.map (esX (A ++ x :: B))) :: (x.hd ++ (x.E ++ (flatX A ++ (flatX B ++ G))))) σ := Hp.mid (A := x.hd) (B := [.o ib (.cells (buC im)), .o im (.map (esX (A ++ x :: B)))]) K
      refine acall_less (buTake (ok.rb x hx) K sn h2 hxo.so hw hD (by omega) hxo.em) ?_
      rintro _ σ' ⟨rfl, K⟩
      rw [mapDel_split h1 h4] at K
      refine ⟨_, _, VLe.refl _, Sub.refl _, rfl, A ++ B, ?_, ?_, ?_, by simp⟩
      · have K := Hp.rest (A := x.hd) (Hp.mid (A := [.o ib (.cells (buC im)), .o im (.map (esX (A ++ B)))]) (B := x.hd) K)
        have K := Hp.rest (A := x.E) (Hp.mid (A := [.o ib (.cells (buC im)), .o im (.map (esX (A ++ B)))]) (B := x.E) K)
        show Hp σb (.o ib (.cells (buC im)) :: .o im (.map (esX (A ++ B))) :: (flatX (A ++ B) ++ G)) σ'
        rw [flatX_append, List.append_assoc]
        exact K
      · show (A ++ B).map (·.pv) = ((A ++ x :: B).map (·.pv)).filter _
        rw [List.map_append, List.map_append, List.map_cons, List.filter_append, List.filter_cons]
        rw [if_neg (by simp [h1])]
        rw [List.filter_eq_self.2, List.filter_eq_self.2]
        · intro y hy; obtain ⟨z, hz, rfl⟩ := List.mem_map.1 hy; exact decide_eq_true (h5 z hz)
        · intro y hy; obtain ⟨z, hz, rfl⟩ := List.mem_map.1 hy; exact decide_eq_true (h4 z hz)
      · refine ⟨?_, fun y hy => ok.ok y ?_, fun y hy => ok.rb y ?_, ?_⟩
        · have := ok.nd
          rw [List.map_append, List.map_cons] at this
          rw [List.map_append]
          exact this.sublist (List.Sublist.append_left (List.sublist_cons_self _ _) _)
        · rcases List.mem_append.1 hy with hy | hy <;> simp [hy]
        · rcases List.mem_append.1 hy with hy | hy <;> simp [hy]
        · have := ok.len
          simp at this ⊢; omega
  · rw [h3]
    dsimp only
    rw [if_neg (by simp)]
    refine acall_less (buTakeNone (H.get (k := 0) rfl) (H.get (k := 1) rfl) sn h2) ?_
    rintro _ σ' ⟨rfl, rfl⟩
    exact ⟨_, _, VLe.tup (VLe.cons (VLe.refl _) (VLe.cons (VLe.slice _ _ _) fun _ _ h => h)), Sub.refl _, rfl, X, H, rfl, ok, Nat.le_refl _⟩
end
end Go.Proofs.Ytgobbmdbkmjlnaa
/-
  Packets that may be, and packets given back or handed on with rights to their rows.
-/
namespace Go.Proofs.Ytgobbmdbkmjlnaa
set_option linter.unusedVariables false
set_option linter.unusedSimpArgs false
open Go Go.Am

structure FldsOk (l : List (List UInt8)) (h w : Int) : Prop where
  one : 1 ≤ l.length
  most : l.length ≤ 24
  each : ∀ i, (hi : i < l.length) → 1 ≤ l[i].length ∧ (i + 1 < l.length → l[i].length ≤ 2047)
  fits : h + sizeV ((l.length : Int) - 1) w + (total l : Int) ≤ 4000
theorem fieldsV_ok' {l : List (List UInt8)} {h w : Int} (k : fieldsV l h w > 0) : FldsOk l h w := by
  unfold fieldsV at k
  split at k
  · omega
  · rename_i h1
    split at k
    · omega
    · rename_i h2
      split at k
      · omega
      · rename_i h3
        refine ⟨by omega, by omega, fun i hi => ?_, by omega⟩
        have hb : fieldBad l i = false := Bool.eq_false_iff.2 fun hb => h2 (fieldsBad_of hi hb)
        rw [fieldBad_get hi] at hb
        have := of_decide_eq_false hb
        omega
theorem amSize_ok {p : Pk} {w : Int} (h : amSize p w > 0) : (w = 10 ∨ w = 16) ∧ 0 ≤ p.fi ∧ p.fi ≤ 3 ∧ isNum w p.sn = true ∧ FldsOk p.fs (amHead p.part w) (lenW w) ∧ 0 ≤ p.off ∧ p.off < offTop w ∧ (p.part = false → p.last = false ∧ p.off = 0) := by
  unfold amSize at h
  split at h
  · omega
  · rename_i hb
    have h1 : amWidth w = true := by
      cases e : amWidth w with
      | true => rfl
      | false => exact absurd (.inl (.inl e)) hb
    have h2 : isNum w p.sn = true := by
      cases e : isNum w p.sn with
      | true => rfl
      | false => exact absurd (.inl (.inr (.inr (.inr e)))) hb
    refine ⟨amWidth_iff.1 h1, ?_, ?_, h2, fieldsV_ok' h, ?_, ?_, fun hp => ⟨?_, ?_⟩⟩
    · exact Decidable.byContradiction fun e => hb (.inl (.inr (.inl (by omega))))
    · exact Decidable.byContradiction fun e => hb (.inl (.inr (.inr (.inl (by omega)))))
    · exact Decidable.byContradiction fun e => hb (.inr (.inr (.inl (by omega))))
    · exact Decidable.byContradiction fun e => hb (.inr (.inr (.inr (by omega))))
    · exact Bool.eq_false_iff.2 fun e => hb (.inr (.inl ⟨hp, .inl e⟩))
    · exact Decidable.byContradiction fun e => hb (.inr (.inl ⟨hp, .inr e⟩))
abbrev TB := Tok × List UInt8
abbrev slB (x : TB) : AVal := sl x.1 x.2
theorem RepL.tbs (κ : Ghost) : ∀ {l : List TB} {vs : List Value}, RepL κ ((l.map slB).flatMap AVal.cells) vs → RepL κ (((l.map (·.2)).map (sl .none)).flatMap AVal.cells) vs
  | [], _, h => h
  | a :: l, _, h => by
    have h : RepL κ (slB a :: (l.map slB).flatMap AVal.cells) _ := h
    cases h with
    | cons h1 h2 => exact .cons (VLe.slice _ _ _ κ _ h1) (RepL.tbs κ h2)
theorem VLe.tbs (l : List TB) (t : Tok) : VLe (.slice 1 (l.map slB) t) (lists .none (l.map (·.2))) := fun κ v h => by
  rcases h.slice_inv with ⟨⟨a, rfl⟩, hn⟩ | ⟨b, off, cap, vs, rfl, g2, g3, g4, g5, g6⟩
  · have hn : l = [] := by simpa using hn
    subst hn; exact .nil
  · refine .slice (vs := vs) (by rw [List.length_map, List.length_map, List.length_map]) g2 (fun x hx => ?_) (RepL.tbs κ g4) g5 trivial
    obtain ⟨y, _, rfl⟩ := List.mem_map.1 hx
    rfl
theorem VLe.aggA {xs ys : List AVal} (h : ∀ κ vs, RepL κ xs vs → RepL κ ys vs) : VLe (.agg xs) (.agg ys) := fun κ v k => by
  cases k with
  | agg r => exact .agg (h _ _ r)
/-- A packet that is given back, whatever may be appended to its fields. -/
theorem aret_pkt {a b c d e f : AVal} {l : List TB} {t : Tok} {ys : List AVal} {σ σ2 : AHeap} {Q : AVal → AHeap → Prop} (hs : Sub σ σ2) (h : Q (.tup (.agg [a, b, c, d, e, f, lists .none (l.map (·.2))] :: ys)) σ2) : ARet (.tup (.agg [a, b, c, d, e, f, .slice 1 (l.map slB) t] :: ys)) σ Q :=
  aret (VLe.tup (VLe.cons (VLe.aggA (VLe.cons (VLe.refl _) (VLe.cons (VLe.refl _) (VLe.cons (VLe.refl _) (VLe.cons (VLe.refl _) (VLe.cons (VLe.refl _) (VLe.cons (VLe.refl _) (VLe.cons (VLe.tbs _ _) VLe.nil)))))))) fun _ _ h => h)) hs h
theorem aret_pkt0 {a b c d e f : AVal} {t : Tok} {ys : List AVal} {σ σ2 : AHeap} {Q : AVal → AHeap → Prop} (hs : Sub σ σ2) (h : Q (.tup (.agg [a, b, c, d, e, f, .slice 1 [] .none] :: ys)) σ2) : ARet (.tup (.agg [a, b, c, d, e, f, .slice 1 [] t] :: ys)) σ Q := aret_pkt (l := []) hs h
end Go.Proofs.Ytgobbmdbkmjlnaa
/-
  Fields that are too much for a statement.
-/
namespace Go.Proofs.Ytgobbmdbkmjlnaa
set_option linter.unusedVariables false
set_option linter.unusedSimpArgs false
open Go Go.Am

def smallG (l : List (List UInt8)) : Prop := l.length ≤ 40 ∧ ∀ p ∈ l, p.length ≤ 4200
theorem gGreat (l : List (List UInt8)) (t : Tok) (σ : AHeap) (hl : l.length ≤ 9223372036854775807) : ACalls Try.prog i_bowlinelaw09_Great [lists t l] σ fun v σ' => (∃ g, v = boolv g ∧ (g = false → smallG l)) ∧ σ' = σ := by
  refine k_bowlinelaw09_Great rfl ?_
  (refine wX ?_)
  refine aloop (α := Nat × Nat) (fun x => [(s3, i64v x.2), (s4, i64v x.1)]) (fun _ => σ) (fun x => x.1 ≤ l.length ∧ (0 < x.1 → l.length ≤ 40) ∧ x.2 ≤ 4200 * x.1 ∧ ∀ p ∈ l.take x.1, p.length ≤ 4200) (fun x => l.length - x.1) (0, 0) ⟨Nat.zero_le _, fun h => by omega, Nat.le_refl _, by simp⟩ (Sub.refl _) ?_ ?_
  · (refine wX ?_)
    (repeat' first | with_reducible exact EnvLe.refl _ | (refine EnvLe.node ?_ (by first | exact Or.inl rfl | exact Or.inr (Or.inl rfl) | exact Or.inr (Or.inr ⟨nofun, VLe.slice _ _ _⟩)) ?_))
  rintro ⟨i, n⟩ ⟨hi, h40, hn, ha⟩
  dsimp only at hi h40 hn ha ⊢
  by_cases h : i < l.length
  · by_cases h1 : l.length > 40
    · (refine wX ?_)
      (repeat ((first | refine aload (by (repeat (first | with_reducible exact upd_same _ _ _ | assumption | rw [upd_ne _ _ (by first | assumption | (apply Ne.symm; assumption))]))) rfl ?_ | refine afit_i64 (by omega) ?_ | refine arem_nonneg (by omega) (by omega) ?_ | refine adiv_i64 (by omega) (by omega) ?_ | refine abr_yes (by omega) ?_ | refine abr_no (by omega) ?_ | refine amin ?_ | refine amax ?_ | refine afit_u64 (by omega) ?_ | refine afit_u8 (by omega) ?_ | rw [List.length_map]); (refine wX ?_)))
      exact aret_same ⟨⟨true, rfl, nofun⟩, rfl⟩
    · (refine wX ?_)
      (repeat ((first | refine aload (by (repeat (first | with_reducible exact upd_same _ _ _ | assumption | rw [upd_ne _ _ (by first | assumption | (apply Ne.symm; assumption))]))) rfl ?_ | refine afit_i64 (by omega) ?_ | refine arem_nonneg (by omega) (by omega) ?_ | refine adiv_i64 (by omega) (by omega) ?_ | refine abr_yes (by omega) ?_ | refine abr_no (by omega) ?_ | refine amin ?_ | refine amax ?_ | refine afit_u64 (by omega) ?_ | refine afit_u8 (by omega) ?_ | rw [List.length_map]); (refine wX ?_)))
      refine aget (by omega) (get_lists h) ?_
      (refine wX ?_)
      refine acell rfl ?_
      (refine wX ?_)
      rw [List.length_map]
      by_cases h2 : l[i].length > 4200
      · refine abr_yes (by omega) ?_
        (refine wX ?_)
        exact aret_same ⟨⟨true, rfl, nofun⟩, rfl⟩
      · refine abr_no (by omega) ?_
        (refine wX ?_)
        refine aget (by omega) (get_lists h) ?_
        (refine wX ?_)
        refine acell rfl ?_
        (refine wX ?_)
        (repeat ((first | refine aload (by (repeat (first | with_reducible exact upd_same _ _ _ | assumption | rw [upd_ne _ _ (by first | assumption | (apply Ne.symm; assumption))]))) rfl ?_ | refine afit_i64 (by omega) ?_ | refine arem_nonneg (by omega) (by omega) ?_ | refine adiv_i64 (by omega) (by omega) ?_ | refine abr_yes (by omega) ?_ | refine abr_no (by omega) ?_ | refine amin ?_ | refine amax ?_ | refine afit_u64 (by omega) ?_ | refine afit_u8 (by omega) ?_ | rw [List.length_map]); (refine wX ?_)))
        refine ⟨(i + 1, n + l[i].length), ⟨h, fun _ => by omega, by dsimp only; omega, ?_⟩, by dsimp only; omega, Sub.refl _, ?_⟩
        · dsimp only
          rw [List.take_add_one, List.getElem?_eq_getElem h]
          intro p hp
          rcases List.mem_append.1 hp with h | h
          · exact ha p h
          · simp at h; subst h; omega
        · rw [show (n : Int) + ((l[i].length : Nat) : Int) = ((n + l[i].length : Nat) : Int) by omega]
          (refine wX ?_)
          (repeat' first | with_reducible exact EnvLe.refl _ | (refine EnvLe.node ?_ (by first | exact Or.inl rfl | exact Or.inr (Or.inl rfl) | exact Or.inr (Or.inr ⟨nofun, VLe.slice _ _ _⟩)) ?_))
  · rw [List.take_of_length_le (by omega)] at ha
    (refine wX ?_)
    (repeat ((first | refine aload (by (repeat (first | with_reducible exact upd_same _ _ _ | assumption | rw [upd_ne _ _ (by first | assumption | (apply Ne.symm; assumption))]))) rfl ?_ | refine afit_i64 (by omega) ?_ | refine arem_nonneg (by omega) (by omega) ?_ | refine adiv_i64 (by omega) (by omega) ?_ | refine abr_yes (by omega) ?_ | refine abr_no (by omega) ?_ | refine amin ?_ | refine amax ?_ | refine afit_u64 (by omega) ?_ | refine afit_u8 (by omega) ?_ | rw [List.length_map]); (refine wX ?_)))
    refine aret_same ⟨⟨_, rfl, fun _ => ⟨?_, ha⟩⟩, rfl⟩
    by_cases h0 : l.length = 0
    · omega
    · exact h40 (by omega)
end Go.Proofs.Ytgobbmdbkmjlnaa
/-
  Statements of what came in parts: what must come of fixed calls.
-/
namespace Go.Proofs.Ytgobbmdbkmjlnaa
set_option linter.unusedVariables false
set_option linter.unusedSimpArgs false
set_option maxRecDepth 20000
open Go Go.Am

theorem pk_argsX {x a b c d e f : AVal} (l : List TB) (t : Tok) : ∀ κ vs, RepL κ [x, .agg [a, b, c, d, e, f, .slice 1 (l.map slB) t]] vs → RepL κ [x, .agg [a, b, c, d, e, f, lists .none (l.map (·.2))]] vs :=
  VLe.cons (VLe.refl _) (VLe.cons (VLe.aggA (VLe.cons (VLe.refl _) (VLe.cons (VLe.refl _) (VLe.cons (VLe.refl _) (VLe.cons (VLe.refl _) (VLe.cons (VLe.refl _) (VLe.cons (VLe.refl _) (VLe.cons (VLe.tbs _ _) VLe.nil)))))))) VLe.nil)
theorem acall_weakX {P : Program} {f : FuncId} {args args' : List AVal} {σ : AHeap} {Q : AVal → AHeap → Prop} (h : ∀ κ vs, RepL κ args vs → RepL κ args' vs) (k : ACalls P f args' σ Q) : ACalls P f args σ Q := by
  rw [ACalls_def] at k ⊢
  exact fun κ w cargs hI hr => k κ w cargs hI (h κ cargs hr)
theorem inR_ofX {n : Int} (h : -9223372036854775808 ≤ n ∧ n ≤ 9223372036854775807) : inR n := by
  have h1 : IntKind.i64.min = -9223372036854775808 := by decide
  have h2 : IntKind.i64.max = 9223372036854775807 := by decide
  simp only [inR, Lit.wf, h1, h2, Bool.and_eq_true, decide_eq_true_eq]
  exact h
theorem buNew (σ : AHeap) : ACalls Try.prog i_rxbuf_New [] σ fun v σ' => ∃ ib im, v = .ptr ib 0 ∧ Hp σ (XL ib im [] []) σ' := by
  refine k_rxbuf_New rfl ?_
  have H := Hp.nil σ
  (refine wX ?_)
  refine hnewmap H ?_
  clear H
  intro im τ H
  (refine wX ?_)
  (repeat ((first | refine zI (by omega) ?_ | refine zE (by omega) (by omega) ?_ | refine zD (by omega) (by omega) ?_ | refine zY (by omega) ?_ | refine zN (by omega) ?_ | refine amin ?_ | refine amax ?_ | refine zU (by omega) ?_ | refine z8 (by omega) ?_ | refine zX (by omega) (by omega) ?_ | refine zR rfl ?_ | refine acellA ?_ | (apply zL H; (· repeat first | exact .h | apply AtK.t); (· rfl)) | (apply zA H; (· repeat first | exact .h | apply AtK.t)) | (apply zS H; (· repeat first | exact .h | apply AtK.t); (· rfl); (conv => whnf); clear H; intro τ H) | rw [List.length_map]); (refine wX ?_)))
  refine hnew H rfl ?_
  clear H
  intro ib τ H
  (refine wX ?_)
  (repeat ((first | refine zI (by omega) ?_ | refine zE (by omega) (by omega) ?_ | refine zD (by omega) (by omega) ?_ | refine zY (by omega) ?_ | refine zN (by omega) ?_ | refine amin ?_ | refine amax ?_ | refine zU (by omega) ?_ | refine z8 (by omega) ?_ | refine zX (by omega) (by omega) ?_ | refine zR rfl ?_ | refine acellA ?_ | (apply zL H; (· repeat first | exact .h | apply AtK.t); (· rfl)) | (apply zA H; (· repeat first | exact .h | apply AtK.t)) | (apply zS H; (· repeat first | exact .h | apply AtK.t); (· rfl); (conv => whnf); clear H; intro τ H) | rw [List.length_map]); (refine wX ?_)))
  exact aret (VLe.refl _) (Sub.refl _) ⟨ib, im, rfl, H⟩
theorem XOk.nil : XOk [] := ⟨List.nodup_nil, nofun, nofun, by decide⟩
def p1_24 : Pk := ⟨false, 1, 3, true, true, 2, [[99, 100]]⟩
def p2_24 : Pk := ⟨false, 2, 3, true, false, 0, [[97, 98]]⟩
def p3_24 : Pk := ⟨false, 0, 3, true, false, 0, [[97, 98]]⟩
def p4_24 : Pk := ⟨false, 0, 0, false, false, 0, []⟩
theorem e1_24 : putS [] p1_24 = 0 := by decide +kernel
theorem e2_24 : missS (putV [] p1_24) 3 = [(0, 2)] := by decide +kernel
theorem e3_24 : putS (putV [] p1_24) p2_24 = 0 := by decide +kernel
theorem e4_24 : putS (putV (putV [] p1_24) p2_24) p3_24 = 12 := by decide +kernel
theorem e5_24 : takeC (putV (putV [] p1_24) p2_24) 3 = 0 := by decide +kernel
theorem e6_24 : takeF (putV (putV [] p1_24) p2_24) 3 = (3, [[97, 98], [99, 100]]) := by decide +kernel
theorem e7_24 : takeC (takeS (putV (putV [] p1_24) p2_24) 3) 3 = 4 := by decide +kernel
theorem e8_24 (S : List PV) : putS S p4_24 = 1 := by unfold putS putK; rw [if_pos (by decide +kernel)]
theorem putV_no {S : List PV} {p : Pk} (h : putS S p ≠ 0) : putV S p = S := by unfold putV; rw [if_pos h]
set_option maxHeartbeats 4000000 in
theorem alive24 (σ : AHeap) : ACalls Try.prog i_bowlinelaw24_alive [] σ fun v σ' => v = boolv true ∧ σ' = σ := by
  refine k_bowlinelaw24_alive rfl ?_
  (refine wX ?_)
  refine acall (buNew σ) ?_
  rintro _ τ ⟨ib, im, rfl, H⟩
  refine ⟨?_, H.ext⟩
  (refine wX ?_)
  refine arowT fun t_ ht_ => ?_
  (refine wX ?_)
  refine amark (by simp) (upd_same _ _ _) ?_
  (refine wX ?_)
  rw [del_upd _ _ _ ht_]
  clear ht_
  (refine wX ?_)
  refine acall (acall_weakX (pk_argsX [(.none, [99, 100])] .full) (xPut H XOk.nil (by decide) p1_24 (by decide) (by decide) (by decide))) ?_
  clear H
  rintro _ τ ⟨rfl, X, H, hX, ok, hl⟩
  rw [show pvs ([] : List PX) = [] from rfl] at hX ⊢
  rw [e1_24]
  (refine wX ?_)
  refine acall (xMissing H ok 3) ?_
  rintro _ σ_ ⟨rfl, e_⟩
  obtain rfl := e_.symm
  refine ⟨?_, Ext.refl _⟩
  (refine wX ?_)
  rw [hX, e2_24]
  (refine wX ?_)
  refine arowT fun t_ ht_ => ?_
  (refine wX ?_)
  refine amark (by simp) (upd_same _ _ _) ?_
  (refine wX ?_)
  rw [del_upd _ _ _ ht_]
  clear ht_
  (refine wX ?_)
  refine acall (acall_weakX (pk_argsX [(.none, [97, 98])] .full) (xPut H ok (by simp at hl; omega) p2_24 (by decide) (by decide) (by decide))) ?_
  clear H
  rintro _ τ ⟨rfl, X2, H, hX2, ok2, hl2⟩
  rw [hX] at hX2 ⊢
  rw [e3_24]
  (refine wX ?_)
  refine arowT fun t_ ht_ => ?_
  (refine wX ?_)
  refine amark (by simp) (upd_same _ _ _) ?_
  (refine wX ?_)
  rw [del_upd _ _ _ ht_]
  clear ht_
  (refine wX ?_)
  refine acall (acall_weakX (pk_argsX [(.none, [97, 98])] .full) (xPut H ok2 (by simp at hl; omega) p3_24 (by decide) (by decide) (by decide))) ?_
  clear H
  rintro _ τ ⟨rfl, X3, H, hX3, ok3, hl3⟩
  rw [hX2] at hX3 ⊢
  rw [putV_no (by rw [e4_24]; decide)] at hX3
  rw [e4_24]
  (refine wX ?_)
  refine acall (xTake H ok3 3) ?_
  clear H
  rintro _ τ ⟨rfl, X4, H, hX4, ok4, hl4⟩
  rw [hX3] at hX4 ⊢
  rw [e5_24, e6_24]
  (refine wX ?_)
  refine acall (xTake H ok4 3) ?_
  clear H
  rintro _ τ ⟨rfl, X5, H, hX5, ok5, hl5⟩
  rw [hX4, e7_24]
  (refine wX ?_)
  (repeat ((first | refine zI (by omega) ?_ | refine zE (by omega) (by omega) ?_ | refine zD (by omega) (by omega) ?_ | refine zY (by omega) ?_ | refine zN (by omega) ?_ | refine amin ?_ | refine amax ?_ | refine zU (by omega) ?_ | refine z8 (by omega) ?_ | refine zX (by omega) (by omega) ?_ | refine zR rfl ?_ | refine acellA ?_ | (apply zL H; (· repeat first | exact .h | apply AtK.t); (· rfl)) | (apply zA H; (· repeat first | exact .h | apply AtK.t)) | (apply zS H; (· repeat first | exact .h | apply AtK.t); (· rfl); (conv => whnf); clear H; intro τ H) | rw [List.length_map]); (refine wX ?_)))
  refine aget (x := spV (0, 2)) (by omega) rfl ?_
  (refine wX ?_)
  (repeat ((first | refine zI (by omega) ?_ | refine zE (by omega) (by omega) ?_ | refine zD (by omega) (by omega) ?_ | refine zY (by omega) ?_ | refine zN (by omega) ?_ | refine amin ?_ | refine amax ?_ | refine zU (by omega) ?_ | refine z8 (by omega) ?_ | refine zX (by omega) (by omega) ?_ | refine zR rfl ?_ | refine acellA ?_ | (apply zL H; (· repeat first | exact .h | apply AtK.t); (· rfl)) | (apply zA H; (· repeat first | exact .h | apply AtK.t)) | (apply zS H; (· repeat first | exact .h | apply AtK.t); (· rfl); (conv => whnf); clear H; intro τ H) | rw [List.length_map]); (refine wX ?_)))
  refine aget (x := sl .none [97, 98]) (by omega) rfl ?_
  (refine wX ?_)
  (repeat ((first | refine zI (by omega) ?_ | refine zE (by omega) (by omega) ?_ | refine zD (by omega) (by omega) ?_ | refine zY (by omega) ?_ | refine zN (by omega) ?_ | refine amin ?_ | refine amax ?_ | refine zU (by omega) ?_ | refine z8 (by omega) ?_ | refine zX (by omega) (by omega) ?_ | refine zR rfl ?_ | refine acellA ?_ | (apply zL H; (· repeat first | exact .h | apply AtK.t); (· rfl)) | (apply zA H; (· repeat first | exact .h | apply AtK.t)) | (apply zS H; (· repeat first | exact .h | apply AtK.t); (· rfl); (conv => whnf); clear H; intro τ H) | rw [List.length_map]); (refine wX ?_)))
  refine astr (bs := [97, 98]) rfl ?_
  (refine wX ?_)
  (repeat ((first | refine zI (by omega) ?_ | refine zE (by omega) (by omega) ?_ | refine zD (by omega) (by omega) ?_ | refine zY (by omega) ?_ | refine zN (by omega) ?_ | refine amin ?_ | refine amax ?_ | refine zU (by omega) ?_ | refine z8 (by omega) ?_ | refine zX (by omega) (by omega) ?_ | refine zR rfl ?_ | refine acellA ?_ | (apply zL H; (· repeat first | exact .h | apply AtK.t); (· rfl)) | (apply zA H; (· repeat first | exact .h | apply AtK.t)) | (apply zS H; (· repeat first | exact .h | apply AtK.t); (· rfl); (conv => whnf); clear H; intro τ H) | rw [List.length_map]); (refine wX ?_)))
  refine aget (x := sl .none [99, 100]) (by omega) rfl ?_
  (refine wX ?_)
  (repeat ((first | refine zI (by omega) ?_ | refine zE (by omega) (by omega) ?_ | refine zD (by omega) (by omega) ?_ | refine zY (by omega) ?_ | refine zN (by omega) ?_ | refine amin ?_ | refine amax ?_ | refine zU (by omega) ?_ | refine z8 (by omega) ?_ | refine zX (by omega) (by omega) ?_ | refine zR rfl ?_ | refine acellA ?_ | (apply zL H; (· repeat first | exact .h | apply AtK.t); (· rfl)) | (apply zA H; (· repeat first | exact .h | apply AtK.t)) | (apply zS H; (· repeat first | exact .h | apply AtK.t); (· rfl); (conv => whnf); clear H; intro τ H) | rw [List.length_map]); (refine wX ?_)))
  refine astr (bs := [99, 100]) rfl ?_
  (refine wX ?_)
  (repeat ((first | refine zI (by omega) ?_ | refine zE (by omega) (by omega) ?_ | refine zD (by omega) (by omega) ?_ | refine zY (by omega) ?_ | refine zN (by omega) ?_ | refine amin ?_ | refine amax ?_ | refine zU (by omega) ?_ | refine z8 (by omega) ?_ | refine zX (by omega) (by omega) ?_ | refine zR rfl ?_ | refine acellA ?_ | (apply zL H; (· repeat first | exact .h | apply AtK.t); (· rfl)) | (apply zA H; (· repeat first | exact .h | apply AtK.t)) | (apply zS H; (· repeat first | exact .h | apply AtK.t); (· rfl); (conv => whnf); clear H; intro τ H) | rw [List.length_map]); (refine wX ?_)))
  refine acall (acall_weakX (pk_argsX [] .full) (xPut H ok5 (by simp at hl; omega) p4_24 (by decide) (by decide) (by decide))) ?_
  clear H
  rintro _ τ ⟨rfl, X6, H, hX6, ok6, hl6⟩
  rw [e8_24]
  (refine wX ?_)
  (repeat ((first | refine zI (by omega) ?_ | refine zE (by omega) (by omega) ?_ | refine zD (by omega) (by omega) ?_ | refine zY (by omega) ?_ | refine zN (by omega) ?_ | refine amin ?_ | refine amax ?_ | refine zU (by omega) ?_ | refine z8 (by omega) ?_ | refine zX (by omega) (by omega) ?_ | refine zR rfl ?_ | refine acellA ?_ | (apply zL H; (· repeat first | exact .h | apply AtK.t); (· rfl)) | (apply zA H; (· repeat first | exact .h | apply AtK.t)) | (apply zS H; (· repeat first | exact .h | apply AtK.t); (· rfl); (conv => whnf); clear H; intro τ H) | rw [List.length_map]); (refine wX ?_)))
  exact aret (VLe.refl _) H.sub ⟨rfl, rfl⟩
end Go.Proofs.Ytgobbmdbkmjlnaa
/-
  Statement of what came in parts: what is refused changes nothing; what came once is there twice.
-/
namespace Go.Proofs.Ytgobbmdbkmjlnaa
set_option linter.unusedVariables false
set_option linter.unusedSimpArgs false
set_option maxRecDepth 20000
open Go Go.Am

theorem countP_lt {α : Type} {f g : α → Bool} : ∀ {l : List α}, (∀ x ∈ l, f x = true → g x = true) → (∃ x ∈ l, f x = false ∧ g x = true) → l.countP f < l.countP g
  | [], _, ⟨x, hx, _⟩ => by cases hx
  | a :: l, h, ⟨x, hx, h1, h2⟩ => by
    have hm : l.countP f ≤ l.countP g := List.countP_mono_left fun y hy => h y (List.mem_cons_of_mem _ hy)
    rw [List.countP_cons, List.countP_cons]
    rcases List.mem_cons.1 hx with rfl | hx
    · rw [h1, h2]; simp; omega
    · have := countP_lt (l := l) (fun y hy => h y (List.mem_cons_of_mem _ hy)) ⟨x, hx, h1, h2⟩
      have ha := h a (List.mem_cons_self ..)
      cases hfa : f a
      · simp; omega
      · rw [ha hfa]; simp; omega
def hasB (l : List Sp) (i : Nat) : Bool := l.any fun y => decide (y.1 ≤ (i : Int) ∧ (i : Int) < y.2)
theorem hasB_iff {l : List Sp} {i : Nat} : hasB l i = true ↔ hasP l (i : Int) := by
  unfold hasB hasP
  rw [List.any_eq_true]
  exact ⟨fun ⟨y, hy, h⟩ => ⟨y, hy, of_decide_eq_true h⟩, fun ⟨y, hy, h⟩ => ⟨y, hy, decide_eq_true h⟩⟩
theorem cnt_has {l : List Sp} (h : SOk l) : cntL l = ((List.range 65536).countP (hasB l) : Int) :=
  cnt_runs (n := 65536) (Nat.le_refl _) h.n fun p => by
    constructor
    · rintro ⟨y, hy, h1, h2⟩
      have := h.mem y hy
      refine ⟨by omega, by omega, ?_⟩
      rw [hasB_iff, Int.toNat_of_nonneg (by omega)]
      exact ⟨y, hy, h1, h2⟩
    · rintro ⟨h1, h2, h3⟩
      rw [hasB_iff, Int.toNat_of_nonneg h1] at h3
      exact h3
theorem cnt_add {l : List Sp} {y : Sp} (h : SOk l) (ha : addC y l = 0) (hh : hasS y l = false) : cntL l < cntL (addS y l) := by
  obtain ⟨hr, _, _⟩ := addC_zero ha
  have hy := spRight_iff.1 hr
  have hn : ¬ (∀ p, y.1 ≤ p → p < y.2 → hasP l p) := fun k => by
    have := (hasS_iff h).2 ⟨hr, k⟩
    rw [hh] at this; cases this
  rw [cnt_has h, cnt_has (h.add y)]
  obtain ⟨p, hp⟩ := Classical.not_forall.1 hn
  have hp1 : y.1 ≤ p := Classical.byContradiction fun k => hp fun a => absurd a k
  have hp2 : p < y.2 := Classical.byContradiction fun k => hp fun _ a => absurd a k
  have hp3 : ¬ hasP l p := fun k => hp fun _ _ => k
  refine Int.ofNat_lt.2 (countP_lt (fun i _ hi => ?_) ⟨p.toNat, List.mem_range.2 (by omega), ?_, ?_⟩)
  · rw [hasB_iff] at hi ⊢
    exact (add_has h ha _).2 (.inl hi)
  · cases hb : hasB l p.toNat
    · rfl
    · rw [hasB_iff, Int.toNat_of_nonneg (by omega)] at hb
      exact absurd hb hp3
  · rw [hasB_iff, Int.toNat_of_nonneg (by omega)]
    exact (add_has h ha _).2 (.inr ⟨hp1, hp2⟩)
theorem spanP_right {p : Pk} (h : rightB p = true) : spRight (spanP p) = true := by
  obtain ⟨g1, g2, g3, g4, g5, g6, g7, g8, g9⟩ := right_ok h
  have gp := right_pos h
  exact spRight_iff.2 ⟨g6, by unfold spanP; dsimp only; omega, by unfold spanP; dsimp only; omega⟩
theorem topL_le {l : List Sp} (h : SOk l) {b : Int} (hb : 0 ≤ b) : topL l ≤ b ↔ ∀ p, hasP l p → p < b := by
  unfold topL
  rcases snoc_cases l with rfl | ⟨r, z, rfl⟩
  · exact ⟨fun _ p hp => (has_nil.1 hp).elim, fun _ => hb⟩
  · rw [List.getLast?_concat]
    dsimp only
    obtain ⟨k1, k2, k3, k4⟩ := h.n.last
    constructor
    · rintro hz p ⟨y, hy, h1, h2⟩
      rcases List.mem_append.1 hy with hy | hy
      · have := k1 y hy; omega
      · rw [List.mem_singleton.1 hy] at h2; omega
    · intro hp
      have := hp (z.2 - 1) ⟨z, by simp, by omega, by omega⟩
      omega
theorem fits_zero {l : List Sp} {e : Int} {y : Sp} {ends : Bool} (h : fitsC l e y ends = 0) : (e = -1 ∨ (y.2 ≤ e ∧ (ends = true → y.2 = e))) ∧ (ends = true → topL l ≤ y.2) ∧ hasS y l = false := by
  unfold fitsC at h
  split at h
  · cases h
  · rename_i hc
    split at h
    · cases h
    · rename_i hh
      refine ⟨?_, fun he => ?_, by simpa using hh⟩
      · by_cases he : e = -1
        · exact .inl he
        · refine .inr ⟨?_, fun hn => ?_⟩
          · exact Int.not_lt.1 fun k => hc (.inl ⟨he, .inl k⟩)
          · exact Classical.byContradiction fun k => hc (.inl ⟨he, .inr ⟨hn, k⟩⟩)
      · exact Int.not_lt.1 fun k => hc (.inr ⟨he, k⟩)
theorem putK_twice {p : Pk} {l : List Sp} {e : Int} (hs : SOk l) (h : putK p l e = 0) : putK p (addS (spanP p) l) (noteE p (endsB p) e) = 12 := by
  obtain ⟨hr, hc, ha⟩ := putK_zero h
  obtain ⟨f1, f2, f3⟩ := fits_zero hc
  have hy := spanP_right hr
  have hy' := spRight_iff.1 hy
  have hhas : hasS (spanP p) (addS (spanP p) l) = true := (hasS_iff (hs.add _)).2 ⟨hy, fun q h1 h2 => (add_has hs ha q).2 (.inr ⟨h1, h2⟩)⟩
  have hfit : fitsC (addS (spanP p) l) (noteE p (endsB p) e) (spanP p) (endsB p) = 12 := by
    unfold fitsC
    rw [if_neg, if_pos hhas]
    have hsp : (spanP p).2 = p.off + (total p.fs : Int) := rfl
    rintro (⟨h1, h2⟩ | ⟨h1, h2⟩)
    · unfold noteE at h1 h2
      rcases (show endsB p = false ∨ endsB p = true by cases endsB p <;> simp) with he | he
      · rw [he] at h1 h2 f1
        rw [if_neg (by simp)] at h1 h2
        rcases f1 with f1 | f1
        · exact h1 f1
        · rcases h2 with h2 | h2
          · omega
          · cases h2.1
      · rw [he] at h2
        rw [if_pos rfl] at h2
        rcases h2 with h2 | h2
        · omega
        · exact h2.2 hsp
    · have h3 := f2 h1
      have h4 := (topL_le hs (by omega)).1 h3
      have h5 : topL (addS (spanP p) l) ≤ (spanP p).2 := (topL_le (hs.add _) (by omega)).2 fun q hq => by
        rcases (add_has hs ha q).1 hq with hq | hq
        · exact h4 q hq
        · exact hq.2
      omega
  unfold putK
  rw [if_neg (by rw [hr]; simp), if_pos (by rw [hfit]; decide), hfit]
structure SInv (S : List PV) : Prop where
  nd : (S.map (·.sn)).Nodup
  ok : ∀ x ∈ S, x.Ok
theorem XOk.inv {X : List PX} (ok : XOk X) : SInv (pvs X) := ⟨by have := ok.nd; rw [show (pvs X).map (·.sn) = X.map (·.pv.sn) by rw [List.map_map]; rfl]; exact this, fun x hx => by obtain ⟨y, hy, rfl⟩ := List.mem_map.1 hx; exact ok.ok y hy⟩
theorem find_uniq : ∀ {S : List PV} {y : PV}, (S.map (·.sn)).Nodup → y ∈ S → findS S y.sn = some y
  | a :: S, y, hn, hy => by
    rw [List.map_cons, List.nodup_cons] at hn
    unfold findS
    rw [List.find?_cons]
    rcases List.mem_cons.1 hy with rfl | hy
    · simp
    · have : a.sn ≠ y.sn := fun e => hn.1 (by rw [e]; exact List.mem_map_of_mem hy)
      have hb : (a.sn == y.sn) = false := by simp [this]
      rw [hb]
      exact find_uniq (S := S) hn.2 hy
theorem findS_some {S : List PV} {sn : Int} {x : PV} (h : findS S sn = some x) : x ∈ S ∧ x.sn = sn :=
  ⟨List.mem_of_find?_eq_some h, by have := List.find?_some h; simpa using this⟩
theorem sum_le {S : List PV} {f g : PV → Int} : (∀ x ∈ S, f x ≤ g x) → (S.map f).sum ≤ (S.map g).sum := by
  intro h
  induction S with
  | nil => exact Int.le_refl _
  | cons a S ih =>
    rw [List.map_cons, List.map_cons, List.sum_cons, List.sum_cons]
    have h1 := h a (List.mem_cons_self ..)
    have h2 := ih fun x hx => h x (List.mem_cons_of_mem _ hx)
    omega
theorem sum_lt {S : List PV} {f g : PV → Int} : (∀ x ∈ S, f x ≤ g x) → (∃ x ∈ S, f x < g x) → (S.map f).sum < (S.map g).sum := by
  intro h hx
  induction S with
  | nil => obtain ⟨x, hx, _⟩ := hx; cases hx
  | cons a S ih =>
    rw [List.map_cons, List.map_cons, List.sum_cons, List.sum_cons]
    have h1 := h a (List.mem_cons_self ..)
    obtain ⟨x, hx, hl⟩ := hx
    rcases List.mem_cons.1 hx with rfl | hx
    · have := sum_le (S := S) (f := f) (g := g) fun x hx => h x (List.mem_cons_of_mem _ hx)
      omega
    · have := ih (fun x hx => h x (List.mem_cons_of_mem _ hx)) ⟨x, hx, hl⟩
      omega
theorem putV_find {S : List PV} {p : Pk} (h : putS S p = 0) : lS (putV S p) p.sn = addS (spanP p) (lS S p.sn) ∧ eS (putV S p) p.sn = noteE p (endsB p) (eS S p.sn) := by
  have key : ∃ x, findS (putV S p) p.sn = some x ∧ x.l = addS (spanP p) (lS S p.sn) ∧ x.e = noteE p (endsB p) (eS S p.sn) := by
    unfold putV
    rw [if_neg (by simpa using h)]
    cases hf : findS S p.sn with
    | some x =>
      obtain ⟨hx, hsn⟩ := findS_some hf
      refine ⟨updV x p, ?_, by unfold lS; rw [hf]; rfl, by unfold eS; rw [hf]; rfl⟩
      dsimp only
      unfold findS at hf ⊢
      rw [List.find?_map]
      have : ((fun x : PV => x.sn == p.sn) ∘ fun x => if x.sn = p.sn then updV x p else x) = fun x => x.sn == p.sn := by
        funext z
        show ((if z.sn = p.sn then updV z p else z).sn == p.sn) = _
        split <;> rfl
      rw [this, hf, Option.map_some, if_pos hsn]
    | none =>
      refine ⟨updV (freshV p.sn) p, ?_, by unfold lS; rw [hf]; rfl, by unfold eS; rw [hf]; rfl⟩
      dsimp only
      unfold findS at hf ⊢
      rw [List.find?_append, hf]
      simp [updV, freshV]
  obtain ⟨x, h1, h2, h3⟩ := key
  exact ⟨by conv => lhs; unfold lS; rw [h1]
            exact h2, by conv => lhs; unfold eS; rw [h1]
                         exact h3⟩
theorem lS_ok {S : List PV} (hi : SInv S) (sn : Int) : SOk (lS S sn) := by
  unfold lS
  cases hf : findS S sn with
  | some x => exact (hi.ok x (findS_some hf).1).so
  | none => exact SOk.nil
theorem put_twice {S : List PV} (hi : SInv S) {p : Pk} (h : putS S p = 0) : putS (putV S p) p = 12 := by
  obtain ⟨h1, h2⟩ := putV_find h
  conv => lhs; unfold putS
  rw [h1, h2]
  exact putK_twice (lS_ok hi _) h
theorem put_more {S : List PV} (hi : SInv S) {p : Pk} (h : putS S p = 0) : bytesS S < bytesS (putV S p) := by
  have h0 := h
  unfold putS lS eS at h0
  unfold putV
  rw [if_neg (by simpa using h)]
  cases hf : findS S p.sn with
  | some x =>
    rw [hf] at h0
    obtain ⟨hx, hsn⟩ := findS_some hf
    obtain ⟨hr, hc, ha⟩ := putK_zero h0
    obtain ⟨_, _, hh⟩ := fits_zero hc
    have hlt := cnt_add (hi.ok x hx).so ha hh
    unfold bytesS
    dsimp only
    rw [List.map_map]
    have q : ∀ y ∈ S, y.sn = p.sn → y = x := fun y hy e => by
      have := find_uniq hi.nd hy
      rw [e, hf] at this
      exact (Option.some.inj this).symm
    refine sum_lt (fun y hy => ?_) ⟨x, hx, ?_⟩
    · show cntL y.l ≤ cntL (if y.sn = p.sn then updV y p else y).l
      by_cases e : y.sn = p.sn
      · rw [if_pos e]
        obtain rfl := q y hy e
        exact Int.le_of_lt hlt
      · rw [if_neg e]; exact Int.le_refl _
    · show cntL x.l < cntL (if x.sn = p.sn then updV x p else x).l
      rw [if_pos hsn]; exact hlt
  | none =>
    rw [hf] at h0
    obtain ⟨hr, hc, ha⟩ := putK_zero h0
    obtain ⟨_, _, hh⟩ := fits_zero hc
    have hlt := cnt_add SOk.nil ha hh
    unfold bytesS
    rw [List.map_append, List.sum_append]
    have e1 : cntL ([] : List Sp) = 0 := rfl
    show _ < _ + (cntL (addS (spanP p) []) + 0)
    omega
end Go.Proofs.Ytgobbmdbkmjlnaa
/-
  Statement of what came in parts: what is refused changes nothing; what came once is there twice: the walk.
-/
namespace Go.Proofs.Ytgobbmdbkmjlnaa
set_option linter.unusedVariables false
set_option linter.unusedSimpArgs false
set_option maxRecDepth 20000
open Go Go.Am

abbrev OpT := Int × Int × (Bool × Int × Int × Bool × Bool × Int × List (List UInt8))
abbrev opX (o : OpT) : AVal := .agg [i64v o.1, i64v o.2.1, boolv o.2.2.1, i64v o.2.2.2.1, i64v o.2.2.2.2.1, boolv o.2.2.2.2.2.1, boolv o.2.2.2.2.2.2.1, i64v o.2.2.2.2.2.2.2.1, lists .none o.2.2.2.2.2.2.2.2]
abbrev opC (k sn : Int) (p : Pk) : List AVal := [i64v k, i64v sn, boolv p.poll, i64v p.fi, i64v p.sn, boolv p.part, boolv p.last, i64v p.off, lists .none p.fs]
theorem get_opX {l : List OpT} {i : Nat} (h : i < l.length) : (l.map opX)[((i : Nat) : Int).toNat]? = some (opX l[i]) := by
  rw [Int.toNat_natCast, List.getElem?_map, List.getElem?_eq_getElem h]; rfl
theorem XL.push {σb τ : AHeap} {ib im : Nat} {X : List PX} {G : List HE} {o : HE} (H : Hp σb (o :: XL ib im X G) τ) : Hp σb (XL ib im X (o :: G)) τ :=
  Hp.mid2 (A := [.o ib (.cells (buC im)), .o im (.map (esX X))]) (B := [o]) (C := flatX X) (D := G) (Hp.mid (A := [o]) (B := [.o ib (.cells (buC im)), .o im (.map (esX X))]) (C := flatX X ++ G) H)
theorem XL.pop {σb τ : AHeap} {ib im : Nat} {X : List PX} {G : List HE} {o : HE} (H : Hp σb (XL ib im X (o :: G)) τ) : Hp σb (o :: XL ib im X G) τ :=
  Hp.mid (A := [.o ib (.cells (buC im)), .o im (.map (esX X))]) (B := [o]) (C := flatX X ++ G) (Hp.mid2 (A := [.o ib (.cells (buC im)), .o im (.map (esX X))]) (B := flatX X) (C := [o]) (D := G) H)
theorem small_sumX {l : List (List UInt8)} (h : smallG l) : total l ≤ 168000 := by
  have : ∀ (m : List (List UInt8)), (∀ p ∈ m, p.length ≤ 4200) → total m ≤ 4200 * m.length := by
    intro m
    induction m with
    | nil => intro _; exact Nat.le_refl _
    | cons a m ih =>
      intro hm
      have h1 := ih fun p hp => hm p (List.mem_cons_of_mem _ hp)
      have h2 := hm a (List.mem_cons_self ..)
      rw [total_cons, List.length_cons]; omega
  have := this l h.2
  have := h.1
  omega
set_option maxHeartbeats 8000000 in
theorem RxbufTwice (ops : List OpT) (σ : AHeap) (hg : ∀ o ∈ ops, (-9223372036854775808 ≤ o.2.2.2.2.1 ∧ o.2.2.2.2.1 ≤ 9223372036854775807) ∧ o.2.2.2.2.2.2.2.2.length ≤ 140737488355328) (hn : ops.length ≤ 140737488355328) :
    ACalls Try.prog i_bowlinelaw24_RxbufTwice [.slice 9 (ops.map opX) .none] σ fun v σ' => v = boolv true ∧ Hp σ [] σ' := by
  refine k_bowlinelaw24_RxbufTwice rfl ?_
  (refine wX ?_)
  refine acall (buNew σ) ?_
  rintro _ τ ⟨ib, im, rfl, H⟩
  refine ⟨?_, H.ext⟩
  (refine wX ?_)
  refine aloop (α := Nat × List PX × AHeap) (fun y => [(s4, i64v y.1)]) (fun y => y.2.2) (fun y => y.1 ≤ 60 ∧ Hp σ (XL ib im y.2.1 []) y.2.2 ∧ XOk y.2.1 ∧ y.2.1.length ≤ y.1) (fun y => 60 - y.1)
    (0, [], τ) ⟨by omega, H, XOk.nil, Nat.le_refl _⟩ (Sub.refl _) ?_ ?_
  · (refine wX ?_)
    (repeat' first | with_reducible exact EnvLe.refl _ | (refine EnvLe.node ?_ (by first | exact Or.inl rfl | exact Or.inr (Or.inl rfl) | exact Or.inr (Or.inr ⟨nofun, VLe.slice _ _ _⟩)) ?_))
  clear H
  rintro ⟨i, X, τ⟩ ⟨hi, H, ok, hX⟩
  dsimp only at hi H ok hX ⊢
  (refine wX ?_)
  (repeat ((first | refine zI (by omega) ?_ | refine zE (by omega) (by omega) ?_ | refine zD (by omega) (by omega) ?_ | refine zY (by omega) ?_ | refine zN (by omega) ?_ | refine amin ?_ | refine amax ?_ | refine zU (by omega) ?_ | refine z8 (by omega) ?_ | refine zX (by omega) (by omega) ?_ | refine zR rfl ?_ | refine acellA ?_ | (apply zL H; (· repeat first | exact .h | apply AtK.t); (· rfl)) | (apply zA H; (· repeat first | exact .h | apply AtK.t)) | (apply zS H; (· repeat first | exact .h | apply AtK.t); (· rfl); (conv => whnf); clear H; intro τ H) | rw [List.length_map]); (refine wX ?_)))
  by_cases h : i < ops.length
  case neg =>
    (repeat ((first | refine zI (by omega) ?_ | refine zE (by omega) (by omega) ?_ | refine zD (by omega) (by omega) ?_ | refine zY (by omega) ?_ | refine zN (by omega) ?_ | refine amin ?_ | refine amax ?_ | refine zU (by omega) ?_ | refine z8 (by omega) ?_ | refine zX (by omega) (by omega) ?_ | refine zR rfl ?_ | refine acellA ?_ | (apply zL H; (· repeat first | exact .h | apply AtK.t); (· rfl)) | (apply zA H; (· repeat first | exact .h | apply AtK.t)) | (apply zS H; (· repeat first | exact .h | apply AtK.t); (· rfl); (conv => whnf); clear H; intro τ H) | rw [List.length_map]); (refine wX ?_)))
    refine acall (alive24 τ) ?_
    rintro _ σ_ ⟨rfl, e_⟩
    obtain rfl := e_.symm
    refine ⟨?_, Ext.refl _⟩
    (refine wX ?_)
    exact aret (VLe.refl _) (Sub.refl _) ⟨rfl, H.left (L := [])⟩
  (repeat ((first | refine zI (by omega) ?_ | refine zE (by omega) (by omega) ?_ | refine zD (by omega) (by omega) ?_ | refine zY (by omega) ?_ | refine zN (by omega) ?_ | refine amin ?_ | refine amax ?_ | refine zU (by omega) ?_ | refine z8 (by omega) ?_ | refine zX (by omega) (by omega) ?_ | refine zR rfl ?_ | refine acellA ?_ | (apply zL H; (· repeat first | exact .h | apply AtK.t); (· rfl)) | (apply zA H; (· repeat first | exact .h | apply AtK.t)) | (apply zS H; (· repeat first | exact .h | apply AtK.t); (· rfl); (conv => whnf); clear H; intro τ H) | rw [List.length_map]); (refine wX ?_)))
  by_cases h60 : i < 60
  case neg =>
    (repeat ((first | refine zI (by omega) ?_ | refine zE (by omega) (by omega) ?_ | refine zD (by omega) (by omega) ?_ | refine zY (by omega) ?_ | refine zN (by omega) ?_ | refine amin ?_ | refine amax ?_ | refine zU (by omega) ?_ | refine z8 (by omega) ?_ | refine zX (by omega) (by omega) ?_ | refine zR rfl ?_ | refine acellA ?_ | (apply zL H; (· repeat first | exact .h | apply AtK.t); (· rfl)) | (apply zA H; (· repeat first | exact .h | apply AtK.t)) | (apply zS H; (· repeat first | exact .h | apply AtK.t); (· rfl); (conv => whnf); clear H; intro τ H) | rw [List.length_map]); (refine wX ?_)))
    refine acall (alive24 τ) ?_
    rintro _ σ_ ⟨rfl, e_⟩
    obtain rfl := e_.symm
    refine ⟨?_, Ext.refl _⟩
    (refine wX ?_)
    exact aret (VLe.refl _) (Sub.refl _) ⟨rfl, H.left (L := [])⟩
  have hgo := hg ops[i] (List.getElem_mem h)
  (repeat ((first | refine zI (by omega) ?_ | refine zE (by omega) (by omega) ?_ | refine zD (by omega) (by omega) ?_ | refine zY (by omega) ?_ | refine zN (by omega) ?_ | refine amin ?_ | refine amax ?_ | refine zU (by omega) ?_ | refine z8 (by omega) ?_ | refine zX (by omega) (by omega) ?_ | refine zR rfl ?_ | refine acellA ?_ | (apply zL H; (· repeat first | exact .h | apply AtK.t); (· rfl)) | (apply zA H; (· repeat first | exact .h | apply AtK.t)) | (apply zS H; (· repeat first | exact .h | apply AtK.t); (· rfl); (conv => whnf); clear H; intro τ H) | rw [List.length_map]); (refine wX ?_)))
  refine aget (by omega) (get_opX h) ?_
  obtain ⟨o, ho⟩ : ∃ o, o = ops[i] := ⟨_, rfl⟩
  rw [← ho] at hgo ⊢
  clear ho
  obtain ⟨kd, osn, p1, p2, p3, p4, p5, p6, p7⟩ := o
  dsimp only at hgo
  obtain ⟨p, hp⟩ : ∃ p : Pk, p = ⟨p1, p2, p3, p4, p5, p6, p7⟩ := ⟨_, rfl⟩
  have q1 : p1 = p.poll := by rw [hp]
  have q2 : p2 = p.fi := by rw [hp]
  have q3 : p3 = p.sn := by rw [hp]
  have q4 : p4 = p.part := by rw [hp]
  have q5 : p5 = p.last := by rw [hp]
  have q6 : p6 = p.off := by rw [hp]
  have q7 : p7 = p.fs := by rw [hp]
  subst q1 q2 q3 q4 q5 q6 q7
  clear hp
  obtain ⟨hsn, hfl⟩ := hgo
  have hsn := inR_ofX hsn
  (refine wX ?_)
  (repeat ((first | refine zI (by omega) ?_ | refine zE (by omega) (by omega) ?_ | refine zD (by omega) (by omega) ?_ | refine zY (by omega) ?_ | refine zN (by omega) ?_ | refine amin ?_ | refine amax ?_ | refine zU (by omega) ?_ | refine z8 (by omega) ?_ | refine zX (by omega) (by omega) ?_ | refine zR rfl ?_ | refine acellA ?_ | (apply zL H; (· repeat first | exact .h | apply AtK.t); (· rfl)) | (apply zA H; (· repeat first | exact .h | apply AtK.t)) | (apply zS H; (· repeat first | exact .h | apply AtK.t); (· rfl); (conv => whnf); clear H; intro τ H) | rw [List.length_map]); (refine wX ?_)))
  refine hnew H rfl ?_
  clear H
  intro i5 τ H
  (refine wX ?_)
  (repeat ((first | refine zI (by omega) ?_ | refine zE (by omega) (by omega) ?_ | refine zD (by omega) (by omega) ?_ | refine zY (by omega) ?_ | refine zN (by omega) ?_ | refine amin ?_ | refine amax ?_ | refine zU (by omega) ?_ | refine z8 (by omega) ?_ | refine zX (by omega) (by omega) ?_ | refine zR rfl ?_ | refine acellA ?_ | (apply zL H; (· repeat first | exact .h | apply AtK.t); (· rfl)) | (apply zA H; (· repeat first | exact .h | apply AtK.t)) | (apply zS H; (· repeat first | exact .h | apply AtK.t); (· rfl); (conv => whnf); clear H; intro τ H) | rw [List.length_map]); (refine wX ?_)))
  replace H : Hp σ (.o i5 (.cells (opC kd osn p)) :: XL ib im X []) τ := H
  refine acall (gGreat p.fs .none τ (by omega)) ?_
  rintro _ σ_ ⟨⟨gr, rfl, hgr⟩, e_⟩
  obtain rfl := e_.symm
  refine ⟨?_, Ext.refl _⟩
  cases gr
  case true =>
    (refine wX ?_)
    refine acall (alive24 τ) ?_
    rintro _ σ_ ⟨rfl, e_⟩
    obtain rfl := e_.symm
    refine ⟨?_, Ext.refl _⟩
    (refine wX ?_)
    exact aret (VLe.refl _) (Sub.refl _) ⟨rfl, H.left (L := [])⟩
  have hsm := hgr rfl
  have h40 := hsm.1
  have hto := small_sumX hsm
  (refine wX ?_)
  (repeat ((first | refine zI (by omega) ?_ | refine zE (by omega) (by omega) ?_ | refine zD (by omega) (by omega) ?_ | refine zY (by omega) ?_ | refine zN (by omega) ?_ | refine amin ?_ | refine amax ?_ | refine zU (by omega) ?_ | refine z8 (by omega) ?_ | refine zX (by omega) (by omega) ?_ | refine zR rfl ?_ | refine acellA ?_ | (apply zL H; (· repeat first | exact .h | apply AtK.t); (· rfl)) | (apply zA H; (· repeat first | exact .h | apply AtK.t)) | (apply zS H; (· repeat first | exact .h | apply AtK.t); (· rfl); (conv => whnf); clear H; intro τ H) | rw [List.length_map]); (refine wX ?_)))
  by_cases hk : kd = 0
  case neg =>
    (repeat ((first | refine zI (by omega) ?_ | refine zE (by omega) (by omega) ?_ | refine zD (by omega) (by omega) ?_ | refine zY (by omega) ?_ | refine zN (by omega) ?_ | refine amin ?_ | refine amax ?_ | refine zU (by omega) ?_ | refine z8 (by omega) ?_ | refine zX (by omega) (by omega) ?_ | refine zR rfl ?_ | refine acellA ?_ | (apply zL H; (· repeat first | exact .h | apply AtK.t); (· rfl)) | (apply zA H; (· repeat first | exact .h | apply AtK.t)) | (apply zS H; (· repeat first | exact .h | apply AtK.t); (· rfl); (conv => whnf); clear H; intro τ H) | rw [List.length_map]); (refine wX ?_)))
    refine acall (xTake (XL.push H) ok osn) ?_
    clear H
    rintro _ τ ⟨rfl, X2, H, hX2, ok2, hl2⟩
    (refine wX ?_)
    (repeat ((first | refine zI (by omega) ?_ | refine zE (by omega) (by omega) ?_ | refine zD (by omega) (by omega) ?_ | refine zY (by omega) ?_ | refine zN (by omega) ?_ | refine amin ?_ | refine amax ?_ | refine zU (by omega) ?_ | refine z8 (by omega) ?_ | refine zX (by omega) (by omega) ?_ | refine zR rfl ?_ | refine acellA ?_ | (apply zL H; (· repeat first | exact .h | apply AtK.t); (· rfl)) | (apply zA H; (· repeat first | exact .h | apply AtK.t)) | (apply zS H; (· repeat first | exact .h | apply AtK.t); (· rfl); (conv => whnf); clear H; intro τ H) | rw [List.length_map]); (refine wX ?_)))
    refine ⟨(i + 1, X2, τ), ⟨by dsimp only; omega, (XL.pop H).tail, ok2, by dsimp only; omega⟩, by dsimp only; omega, Sub.refl _, ?_⟩
    (refine wX ?_)
    (repeat' first | with_reducible exact EnvLe.refl _ | (refine EnvLe.node ?_ (by first | exact Or.inl rfl | exact Or.inr (Or.inl rfl) | exact Or.inr (Or.inr ⟨nofun, VLe.slice _ _ _⟩)) ?_))
  (repeat ((first | refine zI (by omega) ?_ | refine zE (by omega) (by omega) ?_ | refine zD (by omega) (by omega) ?_ | refine zY (by omega) ?_ | refine zN (by omega) ?_ | refine amin ?_ | refine amax ?_ | refine zU (by omega) ?_ | refine z8 (by omega) ?_ | refine zX (by omega) (by omega) ?_ | refine zR rfl ?_ | refine acellA ?_ | (apply zL H; (· repeat first | exact .h | apply AtK.t); (· rfl)) | (apply zA H; (· repeat first | exact .h | apply AtK.t)) | (apply zS H; (· repeat first | exact .h | apply AtK.t); (· rfl); (conv => whnf); clear H; intro τ H) | rw [List.length_map]); (refine wX ?_)))
  refine acall (xBytes (XL.push H) ok) ?_
  rintro _ σ_ ⟨rfl, e_⟩
  obtain rfl := e_.symm
  refine ⟨?_, Ext.refl _⟩
  (refine wX ?_)
  refine acall (xMissing (XL.push H) ok p.sn) ?_
  rintro _ σ_ ⟨rfl, e_⟩
  obtain rfl := e_.symm
  refine ⟨?_, Ext.refl _⟩
  (refine wX ?_)
  (repeat ((first | refine zI (by omega) ?_ | refine zE (by omega) (by omega) ?_ | refine zD (by omega) (by omega) ?_ | refine zY (by omega) ?_ | refine zN (by omega) ?_ | refine amin ?_ | refine amax ?_ | refine zU (by omega) ?_ | refine z8 (by omega) ?_ | refine zX (by omega) (by omega) ?_ | refine zR rfl ?_ | refine acellA ?_ | (apply zL H; (· repeat first | exact .h | apply AtK.t); (· rfl)) | (apply zA H; (· repeat first | exact .h | apply AtK.t)) | (apply zS H; (· repeat first | exact .h | apply AtK.t); (· rfl); (conv => whnf); clear H; intro τ H) | rw [List.length_map]); (refine wX ?_)))
  refine acall (xWhole (XL.push H) ok p.sn) ?_
  rintro _ σ_ ⟨rfl, e_⟩
  obtain rfl := e_.symm
  refine ⟨?_, Ext.refl _⟩
  (refine wX ?_)
  (repeat ((first | refine zI (by omega) ?_ | refine zE (by omega) (by omega) ?_ | refine zD (by omega) (by omega) ?_ | refine zY (by omega) ?_ | refine zN (by omega) ?_ | refine amin ?_ | refine amax ?_ | refine zU (by omega) ?_ | refine z8 (by omega) ?_ | refine zX (by omega) (by omega) ?_ | refine zR rfl ?_ | refine acellA ?_ | (apply zL H; (· repeat first | exact .h | apply AtK.t); (· rfl)) | (apply zA H; (· repeat first | exact .h | apply AtK.t)) | (apply zS H; (· repeat first | exact .h | apply AtK.t); (· rfl); (conv => whnf); clear H; intro τ H) | rw [List.length_map]); (refine wX ?_)))
  refine acall (xPut (XL.push H) ok (by omega) p (by omega) (by omega) hsn) ?_
  clear H
  rintro _ τ ⟨rfl, X2, H, hX2, ok2, hl2⟩
  replace H := XL.pop H
  (refine wX ?_)
  by_cases h0 : putS (pvs X) p = 0
  case neg =>
    rw [putV_no h0] at hX2
    (repeat ((first | refine zI (by omega) ?_ | refine zE (by omega) (by omega) ?_ | refine zD (by omega) (by omega) ?_ | refine zY (by omega) ?_ | refine zN (by omega) ?_ | refine amin ?_ | refine amax ?_ | refine zU (by omega) ?_ | refine z8 (by omega) ?_ | refine zX (by omega) (by omega) ?_ | refine zR rfl ?_ | refine acellA ?_ | (apply zL H; (· repeat first | exact .h | apply AtK.t); (· rfl)) | (apply zA H; (· repeat first | exact .h | apply AtK.t)) | (apply zS H; (· repeat first | exact .h | apply AtK.t); (· rfl); (conv => whnf); clear H; intro τ H) | rw [List.length_map]); (refine wX ?_)))
    refine acall (xBytes (XL.push H) ok2) ?_
    rintro _ σ_ ⟨rfl, e_⟩
    obtain rfl := e_.symm
    refine ⟨?_, Ext.refl _⟩
    (refine wX ?_)
    rw [hX2]
    (repeat ((first | refine zI (by omega) ?_ | refine zE (by omega) (by omega) ?_ | refine zD (by omega) (by omega) ?_ | refine zY (by omega) ?_ | refine zN (by omega) ?_ | refine amin ?_ | refine amax ?_ | refine zU (by omega) ?_ | refine z8 (by omega) ?_ | refine zX (by omega) (by omega) ?_ | refine zR rfl ?_ | refine acellA ?_ | (apply zL H; (· repeat first | exact .h | apply AtK.t); (· rfl)) | (apply zA H; (· repeat first | exact .h | apply AtK.t)) | (apply zS H; (· repeat first | exact .h | apply AtK.t); (· rfl); (conv => whnf); clear H; intro τ H) | rw [List.length_map]); (refine wX ?_)))
    refine acall (xMissing (XL.push H) ok2 p.sn) ?_
    rintro _ σ_ ⟨rfl, e_⟩
    obtain rfl := e_.symm
    refine ⟨?_, Ext.refl _⟩
    (refine wX ?_)
    rw [hX2]
    (repeat ((first | refine zI (by omega) ?_ | refine zE (by omega) (by omega) ?_ | refine zD (by omega) (by omega) ?_ | refine zY (by omega) ?_ | refine zN (by omega) ?_ | refine amin ?_ | refine amax ?_ | refine zU (by omega) ?_ | refine z8 (by omega) ?_ | refine zX (by omega) (by omega) ?_ | refine zR rfl ?_ | refine acellA ?_ | (apply zL H; (· repeat first | exact .h | apply AtK.t); (· rfl)) | (apply zA H; (· repeat first | exact .h | apply AtK.t)) | (apply zS H; (· repeat first | exact .h | apply AtK.t); (· rfl); (conv => whnf); clear H; intro τ H) | rw [List.length_map]); (refine wX ?_)))
    refine acall (xWhole (XL.push H) ok2 p.sn) ?_
    rintro _ σ_ ⟨rfl, e_⟩
    obtain rfl := e_.symm
    refine ⟨?_, Ext.refl _⟩
    (refine wX ?_)
    rw [hX2]
    refine abr_false (by cases wholeS (pvs X) p.sn <;> rfl) ?_
    (refine wX ?_)
    (repeat ((first | refine zI (by omega) ?_ | refine zE (by omega) (by omega) ?_ | refine zD (by omega) (by omega) ?_ | refine zY (by omega) ?_ | refine zN (by omega) ?_ | refine amin ?_ | refine amax ?_ | refine zU (by omega) ?_ | refine z8 (by omega) ?_ | refine zX (by omega) (by omega) ?_ | refine zR rfl ?_ | refine acellA ?_ | (apply zL H; (· repeat first | exact .h | apply AtK.t); (· rfl)) | (apply zA H; (· repeat first | exact .h | apply AtK.t)) | (apply zS H; (· repeat first | exact .h | apply AtK.t); (· rfl); (conv => whnf); clear H; intro τ H) | rw [List.length_map]); (refine wX ?_)))
    refine acall (xBytes (XL.push H) ok2) ?_
    rintro _ σ_ ⟨rfl, e_⟩
    obtain rfl := e_.symm
    refine ⟨?_, Ext.refl _⟩
    (refine wX ?_)
    rw [hX2]
    (repeat ((first | refine zI (by omega) ?_ | refine zE (by omega) (by omega) ?_ | refine zD (by omega) (by omega) ?_ | refine zY (by omega) ?_ | refine zN (by omega) ?_ | refine amin ?_ | refine amax ?_ | refine zU (by omega) ?_ | refine z8 (by omega) ?_ | refine zX (by omega) (by omega) ?_ | refine zR rfl ?_ | refine acellA ?_ | (apply zL H; (· repeat first | exact .h | apply AtK.t); (· rfl)) | (apply zA H; (· repeat first | exact .h | apply AtK.t)) | (apply zS H; (· repeat first | exact .h | apply AtK.t); (· rfl); (conv => whnf); clear H; intro τ H) | rw [List.length_map]); (refine wX ?_)))
    have hlen2 : X2.length = X.length := by
      have h1 := congrArg List.length hX2
      rw [List.length_map, List.length_map] at h1
      exact h1
    refine acall (xPut (XL.push H) ok2 (by omega) p (by omega) (by omega) hsn) ?_
    clear H
    rintro _ τ ⟨rfl, X3, H, hX3, ok3, hl3⟩
    replace H := XL.pop H
    rw [hX2]
    rw [hX2, putV_no h0] at hX3
    (refine wX ?_)
    (repeat ((first | refine zI (by omega) ?_ | refine zE (by omega) (by omega) ?_ | refine zD (by omega) (by omega) ?_ | refine zY (by omega) ?_ | refine zN (by omega) ?_ | refine amin ?_ | refine amax ?_ | refine zU (by omega) ?_ | refine z8 (by omega) ?_ | refine zX (by omega) (by omega) ?_ | refine zR rfl ?_ | refine acellA ?_ | (apply zL H; (· repeat first | exact .h | apply AtK.t); (· rfl)) | (apply zA H; (· repeat first | exact .h | apply AtK.t)) | (apply zS H; (· repeat first | exact .h | apply AtK.t); (· rfl); (conv => whnf); clear H; intro τ H) | rw [List.length_map]); (refine wX ?_)))
    refine acall (xBytes (XL.push H) ok3) ?_
    rintro _ σ_ ⟨rfl, e_⟩
    obtain rfl := e_.symm
    refine ⟨?_, Ext.refl _⟩
    (refine wX ?_)
    rw [hX3]
    (repeat ((first | refine zI (by omega) ?_ | refine zE (by omega) (by omega) ?_ | refine zD (by omega) (by omega) ?_ | refine zY (by omega) ?_ | refine zN (by omega) ?_ | refine amin ?_ | refine amax ?_ | refine zU (by omega) ?_ | refine z8 (by omega) ?_ | refine zX (by omega) (by omega) ?_ | refine zR rfl ?_ | refine acellA ?_ | (apply zL H; (· repeat first | exact .h | apply AtK.t); (· rfl)) | (apply zA H; (· repeat first | exact .h | apply AtK.t)) | (apply zS H; (· repeat first | exact .h | apply AtK.t); (· rfl); (conv => whnf); clear H; intro τ H) | rw [List.length_map]); (refine wX ?_)))
    have hlen3 : X3.length = X.length := by
      have h1 := congrArg List.length hX3
      rw [List.length_map, List.length_map] at h1
      exact h1
    refine ⟨(i + 1, X3, τ), ⟨by dsimp only; omega, H.tail, ok3, by dsimp only; omega⟩, by dsimp only; omega, Sub.refl _, ?_⟩
    (refine wX ?_)
    (repeat' first | with_reducible exact EnvLe.refl _ | (refine EnvLe.node ?_ (by first | exact Or.inl rfl | exact Or.inr (Or.inl rfl) | exact Or.inr (Or.inr ⟨nofun, VLe.slice _ _ _⟩)) ?_))
  rw [h0]
  (refine wX ?_)
  (repeat ((first | refine zI (by omega) ?_ | refine zE (by omega) (by omega) ?_ | refine zD (by omega) (by omega) ?_ | refine zY (by omega) ?_ | refine zN (by omega) ?_ | refine amin ?_ | refine amax ?_ | refine zU (by omega) ?_ | refine z8 (by omega) ?_ | refine zX (by omega) (by omega) ?_ | refine zR rfl ?_ | refine acellA ?_ | (apply zL H; (· repeat first | exact .h | apply AtK.t); (· rfl)) | (apply zA H; (· repeat first | exact .h | apply AtK.t)) | (apply zS H; (· repeat first | exact .h | apply AtK.t); (· rfl); (conv => whnf); clear H; intro τ H) | rw [List.length_map]); (refine wX ?_)))
  refine acall (xBytes (XL.push H) ok2) ?_
  rintro _ σ_ ⟨rfl, e_⟩
  obtain rfl := e_.symm
  refine ⟨?_, Ext.refl _⟩
  (refine wX ?_)
  have hmore := put_more ok.inv h0
  rw [hX2]
  (repeat ((first | refine zI (by omega) ?_ | refine zE (by omega) (by omega) ?_ | refine zD (by omega) (by omega) ?_ | refine zY (by omega) ?_ | refine zN (by omega) ?_ | refine amin ?_ | refine amax ?_ | refine zU (by omega) ?_ | refine z8 (by omega) ?_ | refine zX (by omega) (by omega) ?_ | refine zR rfl ?_ | refine acellA ?_ | (apply zL H; (· repeat first | exact .h | apply AtK.t); (· rfl)) | (apply zA H; (· repeat first | exact .h | apply AtK.t)) | (apply zS H; (· repeat first | exact .h | apply AtK.t); (· rfl); (conv => whnf); clear H; intro τ H) | rw [List.length_map]); (refine wX ?_)))
  refine acall (xBytes (XL.push H) ok2) ?_
  rintro _ σ_ ⟨rfl, e_⟩
  obtain rfl := e_.symm
  refine ⟨?_, Ext.refl _⟩
  (refine wX ?_)
  rw [hX2]
  (repeat ((first | refine zI (by omega) ?_ | refine zE (by omega) (by omega) ?_ | refine zD (by omega) (by omega) ?_ | refine zY (by omega) ?_ | refine zN (by omega) ?_ | refine amin ?_ | refine amax ?_ | refine zU (by omega) ?_ | refine z8 (by omega) ?_ | refine zX (by omega) (by omega) ?_ | refine zR rfl ?_ | refine acellA ?_ | (apply zL H; (· repeat first | exact .h | apply AtK.t); (· rfl)) | (apply zA H; (· repeat first | exact .h | apply AtK.t)) | (apply zS H; (· repeat first | exact .h | apply AtK.t); (· rfl); (conv => whnf); clear H; intro τ H) | rw [List.length_map]); (refine wX ?_)))
  refine acall (xPut (XL.push H) ok2 (by omega) p (by omega) (by omega) hsn) ?_
  clear H
  rintro _ τ ⟨rfl, X3, H, hX3, ok3, hl3⟩
  replace H := XL.pop H
  rw [hX2, put_twice ok.inv h0]
  rw [hX2, putV_no (by rw [put_twice ok.inv h0]; decide)] at hX3
  (refine wX ?_)
  (repeat ((first | refine zI (by omega) ?_ | refine zE (by omega) (by omega) ?_ | refine zD (by omega) (by omega) ?_ | refine zY (by omega) ?_ | refine zN (by omega) ?_ | refine amin ?_ | refine amax ?_ | refine zU (by omega) ?_ | refine z8 (by omega) ?_ | refine zX (by omega) (by omega) ?_ | refine zR rfl ?_ | refine acellA ?_ | (apply zL H; (· repeat first | exact .h | apply AtK.t); (· rfl)) | (apply zA H; (· repeat first | exact .h | apply AtK.t)) | (apply zS H; (· repeat first | exact .h | apply AtK.t); (· rfl); (conv => whnf); clear H; intro τ H) | rw [List.length_map]); (refine wX ?_)))
  refine acall (xBytes (XL.push H) ok3) ?_
  rintro _ σ_ ⟨rfl, e_⟩
  obtain rfl := e_.symm
  refine ⟨?_, Ext.refl _⟩
  (refine wX ?_)
  rw [hX3]
  (repeat ((first | refine zI (by omega) ?_ | refine zE (by omega) (by omega) ?_ | refine zD (by omega) (by omega) ?_ | refine zY (by omega) ?_ | refine zN (by omega) ?_ | refine amin ?_ | refine amax ?_ | refine zU (by omega) ?_ | refine z8 (by omega) ?_ | refine zX (by omega) (by omega) ?_ | refine zR rfl ?_ | refine acellA ?_ | (apply zL H; (· repeat first | exact .h | apply AtK.t); (· rfl)) | (apply zA H; (· repeat first | exact .h | apply AtK.t)) | (apply zS H; (· repeat first | exact .h | apply AtK.t); (· rfl); (conv => whnf); clear H; intro τ H) | rw [List.length_map]); (refine wX ?_)))
  have hlen3 : X3.length = X2.length := by
    have h1 := congrArg List.length hX3
    have h2 := congrArg List.length hX2
    rw [List.length_map] at h1 h2
    omega
  refine ⟨(i + 1, X3, τ), ⟨by dsimp only; omega, H.tail, ok3, by dsimp only; omega⟩, by dsimp only; omega, Sub.refl _, ?_⟩
  (refine wX ?_)
  (repeat' first | with_reducible exact EnvLe.refl _ | (refine EnvLe.node ?_ (by first | exact Or.inl rfl | exact Or.inr (Or.inl rfl) | exact Or.inr (Or.inr ⟨nofun, VLe.slice _ _ _⟩)) ?_))
end Go.Proofs.Ytgobbmdbkmjlnaa
/-
  Equal fields.
-/
namespace Go.Proofs.Ytgobbmdbkmjlnaa
set_option linter.unusedVariables false
set_option linter.unusedSimpArgs false
open Go Go.Am

set_option maxRecDepth 10000 in
theorem refSameF (a b : List (List UInt8)) (t u : Tok) (σ : AHeap) (hl : a.length ≤ 140737488355320) : ACalls Try.prog i_bowlineref09_SameFields [lists t a, lists u b] σ fun v σ' => v = boolv (decide (a = b)) ∧ σ' = σ := by
  refine k_bowlineref09_SameFields rfl ?_
  (refine wX ?_)
  rw [List.length_map, List.length_map]
  by_cases h : a.length = b.length
  · (repeat ((first | refine aload (by (repeat (first | with_reducible exact upd_same _ _ _ | assumption | rw [upd_ne _ _ (by first | assumption | (apply Ne.symm; assumption))]))) rfl ?_ | refine afit_i64 (by omega) ?_ | refine arem_nonneg (by omega) (by omega) ?_ | refine adiv_i64 (by omega) (by omega) ?_ | refine abr_yes (by omega) ?_ | refine abr_no (by omega) ?_ | refine amin ?_ | refine amax ?_ | refine afit_u64 (by omega) ?_ | refine afit_u8 (by omega) ?_ | rw [List.length_map]); (refine wX ?_)))
    refine aloop (α := Nat) (fun i => [(s5, i64v i)]) (fun _ => σ) (fun i => i ≤ a.length ∧ a.take i = b.take i) (fun i => a.length - i) 0 ⟨Nat.zero_le _, rfl⟩ (Sub.refl _) ?_ ?_
    · (refine wX ?_)
      (repeat' first | with_reducible exact EnvLe.refl _ | (refine EnvLe.node ?_ (by first | exact Or.inl rfl | exact Or.inr (Or.inl rfl) | exact Or.inr (Or.inr ⟨nofun, VLe.slice _ _ _⟩)) ?_))
    rintro i ⟨hi, he⟩
    by_cases h1 : i < a.length
    · have h2 : i < b.length := by omega
      (refine wX ?_)
      (repeat ((first | refine aload (by (repeat (first | with_reducible exact upd_same _ _ _ | assumption | rw [upd_ne _ _ (by first | assumption | (apply Ne.symm; assumption))]))) rfl ?_ | refine afit_i64 (by omega) ?_ | refine arem_nonneg (by omega) (by omega) ?_ | refine adiv_i64 (by omega) (by omega) ?_ | refine abr_yes (by omega) ?_ | refine abr_no (by omega) ?_ | refine amin ?_ | refine amax ?_ | refine afit_u64 (by omega) ?_ | refine afit_u8 (by omega) ?_ | rw [List.length_map]); (refine wX ?_)))
      refine aget (by omega) (get_lists h1) ?_
      (refine wX ?_)
      refine acell rfl ?_
      (refine wX ?_)
      refine astr rfl ?_
      (refine wX ?_)
      refine aget (by omega) (get_lists h2) ?_
      (refine wX ?_)
      refine acell rfl ?_
      (refine wX ?_)
      refine astr rfl ?_
      (refine wX ?_)
      by_cases h4 : a[i] = b[i]
      · refine abr_no (fun h => h (by rw [h4])) ?_
        (refine wX ?_)
        (repeat ((first | refine aload (by (repeat (first | with_reducible exact upd_same _ _ _ | assumption | rw [upd_ne _ _ (by first | assumption | (apply Ne.symm; assumption))]))) rfl ?_ | refine afit_i64 (by omega) ?_ | refine arem_nonneg (by omega) (by omega) ?_ | refine adiv_i64 (by omega) (by omega) ?_ | refine abr_yes (by omega) ?_ | refine abr_no (by omega) ?_ | refine amin ?_ | refine amax ?_ | refine afit_u64 (by omega) ?_ | refine afit_u8 (by omega) ?_ | rw [List.length_map]); (refine wX ?_)))
        refine ⟨i + 1, ⟨h1, ?_⟩, by omega, Sub.refl _, ?_⟩
        · rw [List.take_add_one, List.take_add_one, he, List.getElem?_eq_getElem h1, List.getElem?_eq_getElem h2, h4]
        · (refine wX ?_)
          (repeat' first | with_reducible exact EnvLe.refl _ | (refine EnvLe.node ?_ (by first | exact Or.inl rfl | exact Or.inr (Or.inl rfl) | exact Or.inr (Or.inr ⟨nofun, VLe.slice _ _ _⟩)) ?_))
      · refine abr_yes (fun h => h4 (by simpa using h)) ?_
        (refine wX ?_)
        exact aret_same ⟨congrArg boolv (decide_eq_false fun e => h4 (by subst e; rfl)).symm, rfl⟩
    · rw [List.take_of_length_le (by omega), List.take_of_length_le (by omega)] at he
      (refine wX ?_)
      (repeat ((first | refine aload (by (repeat (first | with_reducible exact upd_same _ _ _ | assumption | rw [upd_ne _ _ (by first | assumption | (apply Ne.symm; assumption))]))) rfl ?_ | refine afit_i64 (by omega) ?_ | refine arem_nonneg (by omega) (by omega) ?_ | refine adiv_i64 (by omega) (by omega) ?_ | refine abr_yes (by omega) ?_ | refine abr_no (by omega) ?_ | refine amin ?_ | refine amax ?_ | refine afit_u64 (by omega) ?_ | refine afit_u8 (by omega) ?_ | rw [List.length_map]); (refine wX ?_)))
      exact aret_same ⟨congrArg boolv (decide_eq_true he).symm, rfl⟩
  · refine abr_yes (by omega) ?_
    (refine wX ?_)
    exact aret_same ⟨congrArg boolv (decide_eq_false fun e => h (by rw [e])).symm, rfl⟩

end Go.Proofs.Ytgobbmdbkmjlnaa
/-
  The document's lengths: how many bytes they have.
-/
namespace Go.Proofs.Ytgobbmdbkmjlnaa
set_option linter.unusedVariables false
set_option linter.unusedSimpArgs false
open Go Go.Am

end Go.Proofs.Ytgobbmdbkmjlnaa
/-
  Packets that are acknowledged: their data, and which are equal; the document's sizes.
-/
namespace Go.Proofs.Ytgobbmdbkmjlnaa
set_option linter.unusedVariables false
set_option linter.unusedSimpArgs false
open Go Go.Am

end Go.Proofs.Ytgobbmdbkmjlnaa
/-
  What of fields lies between two places of their bytes; plain.
-/
namespace Go.Proofs.Ytgobbmdbkmjlnaa
set_option linter.unusedVariables false
set_option linter.unusedSimpArgs false
open Go Go.Am

def pcs : List (List UInt8) → Nat → Nat → List (List UInt8)
  | [], _, _ => []
  | f :: fs, a, b => if b ≤ a then [] else if f.length ≤ a then pcs fs (a - f.length) (b - f.length) else (f.take b).drop a :: pcs fs 0 (b - f.length)
theorem pcs_nil {fs : List (List UInt8)} {a b : Nat} (h : b ≤ a) : pcs fs a b = [] := by
  cases fs with
  | nil => rfl
  | cons f fs => unfold pcs; rw [if_pos h]
theorem pcs_skip {f : List UInt8} {fs : List (List UInt8)} {a b : Nat} (h : f.length ≤ a) : pcs (f :: fs) a b = pcs fs (a - f.length) (b - f.length) := by
  by_cases hb : b ≤ a
  · rw [pcs_nil hb, pcs_nil (by omega)]
  · show (if b ≤ a then [] else if f.length ≤ a then pcs fs (a - f.length) (b - f.length) else (f.take b).drop a :: pcs fs 0 (b - f.length)) = _
    rw [if_neg hb, if_pos h]
theorem pcs_here {f : List UInt8} {fs : List (List UInt8)} {a b : Nat} (h : a < f.length) (hb : a < b) : pcs (f :: fs) a b = (f.take b).drop a :: pcs fs 0 (b - f.length) := by
  show (if b ≤ a then [] else if f.length ≤ a then pcs fs (a - f.length) (b - f.length) else (f.take b).drop a :: pcs fs 0 (b - f.length)) = _
  rw [if_neg (by omega), if_neg (by omega)]
/-- A place at which a field begins, or ends. -/
def edge : List (List UInt8) → Nat → Bool
  | [], x => decide (x = 0)
  | f :: fs, x => decide (x = 0) || (decide (f.length ≤ x) && edge fs (x - f.length))
theorem edge_zero (fs : List (List UInt8)) : edge fs 0 = true := by cases fs <;> rfl
theorem edge_skip {f : List UInt8} {fs : List (List UInt8)} {x : Nat} (h : f.length ≤ x) : edge (f :: fs) x = edge fs (x - f.length) := by
  show (decide (x = 0) || (decide (f.length ≤ x) && edge fs (x - f.length))) = _
  rw [decide_eq_true h, Bool.true_and]
  by_cases h0 : x = 0
  · subst h0; rw [Nat.zero_sub, edge_zero]; rfl
  · rw [decide_eq_false h0, Bool.false_or]
theorem edge_in {f : List UInt8} {fs : List (List UInt8)} {x : Nat} (h0 : 0 < x) (h : x < f.length) : edge (f :: fs) x = false := by
  show (decide (x = 0) || (decide (f.length ≤ x) && edge fs (x - f.length))) = _
  rw [decide_eq_false (by omega), decide_eq_false (by omega)]; rfl
theorem edge_iff : ∀ {fs : List (List UInt8)} {x : Nat}, edge fs x = true ↔ ∃ i, i ≤ fs.length ∧ total (fs.take i) = x
  | [], x => by
    show decide (x = 0) = true ↔ _
    rw [decide_eq_true_iff]
    constructor
    · rintro rfl; exact ⟨0, Nat.le_refl _, rfl⟩
    · rintro ⟨i, _, h⟩; simp at h; exact h.symm
  | f :: fs, x => by
    by_cases h : f.length ≤ x
    · rw [edge_skip h, edge_iff]
      constructor
      · rintro ⟨i, h1, h2⟩
        refine ⟨i + 1, by simpa using h1, ?_⟩
        rw [List.take_succ_cons, total_cons]; omega
      · rintro ⟨i, h1, h2⟩
        cases i with
        | zero => exact ⟨0, Nat.zero_le _, by have : (0 : Nat) = x := h2; rw [← this]; simp [total]⟩
        | succ i =>
          rw [List.take_succ_cons, total_cons] at h2
          exact ⟨i, by simpa using h1, by omega⟩
    · by_cases h0 : x = 0
      · subst h0; exact ⟨fun _ => ⟨0, Nat.zero_le _, rfl⟩, fun _ => edge_zero _⟩
      · rw [edge_in (by omega) (by omega)]
        constructor
        · intro h; cases h
        · rintro ⟨i, h1, h2⟩
          cases i with
          | zero => exact (h0 h2.symm).elim
          | succ i => rw [List.take_succ_cons, total_cons] at h2; omega
theorem edge_top (fs : List (List UInt8)) : edge fs (total fs) = true := edge_iff.2 ⟨fs.length, Nat.le_refl _, by rw [List.take_length]⟩
/-- A piece of its own: of one field, from its beginning or from the first place on. -/
theorem pcs_new : ∀ {fs : List (List UInt8)} {a x y : Nat}, a ≤ x → x < y → y ≤ total fs → (x = a ∨ edge fs x = true) → (∀ z, x < z → z < y → edge fs z = false) →
    pcs fs a y = pcs fs a x ++ [(fs.flatten.take y).drop x]
  | [], a, x, y, h1, h2, h3, h4, h5 => by have : total [] = 0 := rfl; omega
  | f :: fs, a, x, y, h1, h2, h3, h4, h5 => by
    rw [total_cons] at h3
    by_cases hf : f.length ≤ x
    · -- the piece lies behind the first field
      have hd : (((f :: fs).flatten).take y).drop x = (fs.flatten.take (y - f.length)).drop (x - f.length) := by
        rw [List.flatten_cons, List.take_append, List.drop_append, List.take_of_length_le (by omega), List.drop_of_length_le (by omega), List.nil_append]
      have key : ∀ a', a' ≤ x - f.length → (x - f.length = a' ∨ edge fs (x - f.length) = true) → pcs fs a' (y - f.length) = pcs fs a' (x - f.length) ++ [(fs.flatten.take (y - f.length)).drop (x - f.length)] := fun a' ha' he =>
        pcs_new ha' (by omega) (by omega) he fun z g1 g2 => by
          have := h5 (z + f.length) (by omega) (by omega)
          rw [edge_skip (by omega), Nat.add_sub_cancel] at this; exact this
      rw [hd]
      by_cases ha : f.length ≤ a
      · rw [pcs_skip ha, pcs_skip ha]
        refine key _ (by omega) ?_
        rcases h4 with rfl | h4
        · exact .inl rfl
        · rw [edge_skip hf] at h4; exact .inr h4
      · have hx : a < x := by omega
        rw [pcs_here (by omega) (by omega), pcs_here (by omega) hx]
        have he : edge fs (x - f.length) = true := by
          rcases h4 with rfl | h4
          · omega
          · rw [edge_skip hf] at h4; exact h4
        rw [key 0 (Nat.zero_le _) (.inr he), List.take_of_length_le (l := f) (by omega), List.take_of_length_le (l := f) (by omega)]; rfl
    · have hxa : x = a := by
        rcases h4 with h4 | h4
        · exact h4
        · by_cases h0 : x = 0
          · omega
          · rw [edge_in (by omega) (by omega)] at h4; cases h4
      subst hxa
      rw [pcs_nil (Nat.le_refl x), List.nil_append, pcs_here (by omega) h2]
      have hyf : y ≤ f.length := by
        refine Decidable.byContradiction fun hn => ?_
        have := h5 f.length (by omega) (by omega)
        rw [edge_skip (Nat.le_refl _), Nat.sub_self, edge_zero] at this; cases this
      rw [pcs_nil (by omega), List.flatten_cons, List.take_append_of_le_length hyf]
theorem pcs_flat : ∀ {fs : List (List UInt8)} {a b : Nat}, a ≤ b → (pcs fs a b).flatten = (fs.flatten.take b).drop a
  | [], a, b, h => by simp [pcs]
  | f :: fs, a, b, h => by
    by_cases hb : b ≤ a
    · rw [pcs_nil hb, List.drop_of_length_le (by rw [List.length_take]; omega)]; rfl
    · rw [List.flatten_cons, List.take_append, List.drop_append]
      by_cases hf : f.length ≤ a
      · rw [pcs_skip hf, pcs_flat (by omega), List.drop_of_length_le (l := f.take b) (by rw [List.length_take]; omega), List.nil_append, List.length_take, Nat.min_eq_right (by omega)]
      · rw [pcs_here (by omega) (by omega), List.flatten_cons, pcs_flat (Nat.zero_le _), List.drop_zero, List.length_take]
        by_cases hbf : b ≤ f.length
        · rw [show b - f.length = 0 by omega, List.take_zero, List.drop_nil]
        · rw [show a - min b f.length = 0 by omega, List.drop_zero]
theorem pcs_len : ∀ {fs : List (List UInt8)} {a b : Nat}, (pcs fs a b).length ≤ fs.length
  | [], a, b => Nat.le_refl _
  | f :: fs, a, b => by
    by_cases hb : b ≤ a
    · rw [pcs_nil hb]; exact Nat.zero_le _
    · by_cases hf : f.length ≤ a
      · rw [pcs_skip hf]
        have := pcs_len (fs := fs) (a := a - f.length) (b := b - f.length)
        simp; omega
      · rw [pcs_here (by omega) (by omega)]
        have := pcs_len (fs := fs) (a := 0) (b := b - f.length)
        simp; omega
theorem pcs_total {fs : List (List UInt8)} {a b : Nat} (h : a ≤ b) (hb : b ≤ total fs) : total (pcs fs a b) = b - a := by
  show (pcs fs a b).flatten.length = _
  rw [pcs_flat h, List.length_drop, List.length_take]
  show min b (total fs) - a = _
  omega
/-- All of them. -/
theorem pcs_all : ∀ {fs : List (List UInt8)}, (∀ f ∈ fs, f.length ≠ 0) → pcs fs 0 (total fs) = fs
  | [], _ => rfl
  | f :: fs, h => by
    have h0 := h f (List.mem_cons_self ..)
    rw [total_cons, pcs_here (by omega) (by omega), List.take_of_length_le (by omega), List.drop_zero, Nat.add_sub_cancel_left, pcs_all fun g hg => h g (List.mem_cons_of_mem _ hg)]
theorem pcs_ne : ∀ {fs : List (List UInt8)} {a b : Nat} {p : List UInt8}, p ∈ pcs fs a b → p.length ≠ 0
  | [], a, b, p, h => by simp [pcs] at h
  | f :: fs, a, b, p, h => by
    by_cases hb : b ≤ a
    · rw [pcs_nil hb] at h; simp at h
    · by_cases hf : f.length ≤ a
      · rw [pcs_skip hf] at h; exact pcs_ne h
      · rw [pcs_here (by omega) (by omega)] at h
        rcases List.mem_cons.1 h with rfl | h
        · rw [List.length_drop, List.length_take]; omega
        · exact pcs_ne h
/-- A piece that is not the last one is of a field that is not the last one. -/
theorem pcs_bound {B : Nat} : ∀ {fs : List (List UInt8)} {a b : Nat}, (∀ i (h : i < fs.length), i + 1 < fs.length → fs[i].length ≤ B) → ∀ j (h : j < (pcs fs a b).length), j + 1 < (pcs fs a b).length → (pcs fs a b)[j].length ≤ B
  | [], a, b, h, j, h1, h2 => by simp [pcs] at h1
  | f :: fs, a, b, h, j, h1, h2 => by
    have ht : ∀ i (h : i < fs.length), i + 1 < fs.length → fs[i].length ≤ B := fun i hi hi2 => by
      have := h (i + 1) (by simpa using hi) (by simpa using hi2)
      simpa using this
    by_cases hb : b ≤ a
    · have e := pcs_nil (fs := f :: fs) hb
      simp only [e, List.length_nil] at h1; omega
    · by_cases hf : f.length ≤ a
      · have e := pcs_skip (fs := fs) (b := b) hf
        simp only [e] at h1 h2 ⊢
        exact pcs_bound ht j h1 h2
      · have e := pcs_here (f := f) (fs := fs) (a := a) (b := b) (by omega) (by omega)
        simp only [e, List.length_cons] at h1 h2 ⊢
        cases j with
        | zero =>
          have hl := pcs_len (fs := fs) (a := 0) (b := b - f.length)
          have := h 0 (by simp) (by simp only [List.length_cons]; omega)
          simp only [List.getElem_cons_zero] at this ⊢
          rw [List.length_drop, List.length_take]; omega
        | succ j =>
          simp only [List.getElem_cons_succ]
          exact pcs_bound ht j (by omega) (by omega)
theorem pcs_pos {fs : List (List UInt8)} {a b : Nat} (h : a < b) (hb : b ≤ total fs) : 1 ≤ (pcs fs a b).length := by
  have h1 := pcs_total (fs := fs) (Nat.le_of_lt h) hb
  rcases Nat.eq_zero_or_pos (pcs fs a b).length with h0 | h0
  · rw [List.length_eq_zero_iff.1 h0, total_nil] at h1; omega
  · exact h0
end Go.Proofs.Ytgobbmdbkmjlnaa
/-
  Packets that are cut anew: sizes, and where fields end.
-/
namespace Go.Proofs.Ytgobbmdbkmjlnaa
set_option linter.unusedVariables false
set_option linter.unusedSimpArgs false
open Go Go.Am

theorem gLenWidth (w : Int) (σ : AHeap) : ACalls Try.prog i_reseg_lenWidth [i64v w] σ fun v σ' => v = i64v (lenW w) ∧ σ' = σ := by
  refine k_reseg_lenWidth rfl ?_
  (refine wX ?_)
  by_cases h : w = 10
  · refine abr_yes h ?_
    (refine wX ?_)
    exact aret_same ⟨by unfold lenW; rw [if_pos h], rfl⟩
  · refine abr_no h ?_
    (refine wX ?_)
    exact aret_same ⟨by unfold lenW; rw [if_neg h], rfl⟩
def leastV (w : Int) : Int := if amHead true w = 0 then 0 else amHead true w + 1
theorem gLeast (w : Int) (σ : AHeap) : ACalls Try.prog i_reseg_Least [i64v w] σ fun v σ' => v = i64v (leastV w) ∧ σ' = σ := by
  have hr := amHead_range true w
  refine k_reseg_Least rfl ?_
  (refine wX ?_)
  refine acall (aHead true w σ) ?_
  rintro _ σ_ ⟨rfl, e_⟩
  obtain rfl := e_.symm
  refine ⟨?_, Ext.refl _⟩
  (refine wX ?_)
  by_cases h : amHead true w = 0
  · (repeat ((first | refine zI (by omega) ?_ | refine zE (by omega) (by omega) ?_ | refine zD (by omega) (by omega) ?_ | refine zY (by omega) ?_ | refine zN (by omega) ?_ | refine amin ?_ | refine amax ?_ | refine zU (by omega) ?_ | refine z8 (by omega) ?_ | refine zX (by omega) (by omega) ?_ | refine zR rfl ?_ | refine acellA ?_ | (apply zL H; (· repeat first | exact .h | apply AtK.t); (· rfl)) | (apply zA H; (· repeat first | exact .h | apply AtK.t)) | (apply zS H; (· repeat first | exact .h | apply AtK.t); (· rfl); (conv => whnf); clear H; intro τ H) | rw [List.length_map]); (refine wX ?_)))
    exact aret_same ⟨by unfold leastV; rw [if_pos h], rfl⟩
  · (repeat ((first | refine zI (by omega) ?_ | refine zE (by omega) (by omega) ?_ | refine zD (by omega) (by omega) ?_ | refine zY (by omega) ?_ | refine zN (by omega) ?_ | refine amin ?_ | refine amax ?_ | refine zU (by omega) ?_ | refine z8 (by omega) ?_ | refine zX (by omega) (by omega) ?_ | refine zR rfl ?_ | refine acellA ?_ | (apply zL H; (· repeat first | exact .h | apply AtK.t); (· rfl)) | (apply zA H; (· repeat first | exact .h | apply AtK.t)) | (apply zS H; (· repeat first | exact .h | apply AtK.t); (· rfl); (conv => whnf); clear H; intro τ H) | rw [List.length_map]); (refine wX ?_)))
    exact aret_same ⟨by unfold leastV; rw [if_neg h], rfl⟩
def endsL (fs : List (List UInt8)) : List Int := (List.range fs.length).map fun i => (total (fs.take (i + 1)) : Int)
theorem endsL_len (fs : List (List UInt8)) : (endsL fs).length = fs.length := by unfold endsL; rw [List.length_map, List.length_range]
theorem get_ends {fs : List (List UInt8)} {i : Nat} (h : i < fs.length) : ((endsL fs).map i64v)[((i : Nat) : Int).toNat]? = some (i64v (total (fs.take (i + 1)))) := by
  rw [Int.toNat_natCast, List.getElem?_map, List.getElem?_eq_getElem (by rw [endsL_len]; exact h)]
  unfold endsL
  rw [List.getElem_map, List.getElem_range]; rfl
theorem ends_snoc {fs : List (List UInt8)} {i : Nat} (h : i < fs.length) : ((List.range (i + 1)).map fun j => (total (fs.take (j + 1)) : Int)).map i64v = ((List.range i).map fun j => (total (fs.take (j + 1)) : Int)).map i64v ++ [i64v (total (fs.take (i + 1)))] := by
  rw [List.range_succ, List.map_append, List.map_append]; rfl
set_option maxRecDepth 20000 in
theorem gEnds (p : Pk) (σ : AHeap) (hn : p.fs.length ≤ 1000) (ht : total p.fs ≤ 1000000) : ACalls Try.prog i_reseg_ends [amV p] σ fun v σ' => v = ints .none (endsL p.fs) ∧ σ' = σ := by
  refine k_reseg_ends rfl ?_
  have H := Hp.nil σ
  (refine wX ?_)
  refine hnew H rfl ?_
  clear H
  intro id τ H
  (refine wX ?_)
  (repeat ((first | refine zI (by omega) ?_ | refine zE (by omega) (by omega) ?_ | refine zD (by omega) (by omega) ?_ | refine zY (by omega) ?_ | refine zN (by omega) ?_ | refine amin ?_ | refine amax ?_ | refine zU (by omega) ?_ | refine z8 (by omega) ?_ | refine zX (by omega) (by omega) ?_ | refine zR rfl ?_ | refine acellA ?_ | (apply zL H; (· repeat first | exact .h | apply AtK.t); (· rfl)) | (apply zA H; (· repeat first | exact .h | apply AtK.t)) | (apply zS H; (· repeat first | exact .h | apply AtK.t); (· rfl); (conv => whnf); clear H; intro τ H) | rw [List.length_map]); (refine wX ?_)))
  refine aloop (α := Nat × Tok × AHeap) (fun y => [(s3, ints y.2.1 ((List.range y.1).map fun j => (total (p.fs.take (j + 1)) : Int))), (s4, i64v (total (p.fs.take y.1))), (s10, i64v y.1)]) (fun y => y.2.2) (fun y => y.1 ≤ p.fs.length ∧ Hp σ [.t y.2.1, .o id (.cells (amV p).cells)] y.2.2) (fun y => p.fs.length - y.1) (0, .full, τ) ⟨Nat.zero_le _, H.cons_full⟩ (Sub.refl _) ?_ ?_
  · (refine wX ?_)
    (repeat' first | with_reducible exact EnvLe.refl _ | (refine EnvLe.node ?_ (by first | exact Or.inl rfl | exact Or.inr (Or.inl rfl) | exact Or.inr (Or.inr ⟨nofun, VLe.slice _ _ _⟩)) ?_))
  clear H
  rintro ⟨i, tk, τ⟩ ⟨hi, H⟩
  dsimp only at hi H ⊢
  (refine wX ?_)
  (repeat ((first | refine zI (by omega) ?_ | refine zE (by omega) (by omega) ?_ | refine zD (by omega) (by omega) ?_ | refine zY (by omega) ?_ | refine zN (by omega) ?_ | refine amin ?_ | refine amax ?_ | refine zU (by omega) ?_ | refine z8 (by omega) ?_ | refine zX (by omega) (by omega) ?_ | refine zR rfl ?_ | refine acellA ?_ | (apply zL H; (· repeat first | exact .h | apply AtK.t); (· rfl)) | (apply zA H; (· repeat first | exact .h | apply AtK.t)) | (apply zS H; (· repeat first | exact .h | apply AtK.t); (· rfl); (conv => whnf); clear H; intro τ H) | rw [List.length_map]); (refine wX ?_)))
  have htt := total_take_le p.fs i
  by_cases h : i < p.fs.length
  · have hts := total_take_succ p.fs i h
    have htl := total_take_le p.fs (i + 1)
    (repeat ((first | refine zI (by omega) ?_ | refine zE (by omega) (by omega) ?_ | refine zD (by omega) (by omega) ?_ | refine zY (by omega) ?_ | refine zN (by omega) ?_ | refine amin ?_ | refine amax ?_ | refine zU (by omega) ?_ | refine z8 (by omega) ?_ | refine zX (by omega) (by omega) ?_ | refine zR rfl ?_ | refine acellA ?_ | (apply zL H; (· repeat first | exact .h | apply AtK.t); (· rfl)) | (apply zA H; (· repeat first | exact .h | apply AtK.t)) | (apply zS H; (· repeat first | exact .h | apply AtK.t); (· rfl); (conv => whnf); clear H; intro τ H) | rw [List.length_map]); (refine wX ?_)))
    refine aget (by omega) (get_lists h) ?_
    (refine wX ?_)
    (repeat ((first | refine zI (by omega) ?_ | refine zE (by omega) (by omega) ?_ | refine zD (by omega) (by omega) ?_ | refine zY (by omega) ?_ | refine zN (by omega) ?_ | refine amin ?_ | refine amax ?_ | refine zU (by omega) ?_ | refine z8 (by omega) ?_ | refine zX (by omega) (by omega) ?_ | refine zR rfl ?_ | refine acellA ?_ | (apply zL H; (· repeat first | exact .h | apply AtK.t); (· rfl)) | (apply zA H; (· repeat first | exact .h | apply AtK.t)) | (apply zS H; (· repeat first | exact .h | apply AtK.t); (· rfl); (conv => whnf); clear H; intro τ H) | rw [List.length_map]); (refine wX ?_)))
    rw [show (total (p.fs.take i) : Int) + (p.fs[i].length : Int) = (total (p.fs.take (i + 1)) : Int) by omega]
    apply zP H
    · (repeat first | exact .h | apply AtK.t)
    · exact (by rw [List.length_map, List.length_map, List.length_range]; show (_ + 1) * 8 ≤ _; omega)
    intro tk2
    (conv => whnf)
    clear H
    intro τ H
    (refine wX ?_)
    rw [← ends_snoc h] at *
    (repeat ((first | refine zI (by omega) ?_ | refine zE (by omega) (by omega) ?_ | refine zD (by omega) (by omega) ?_ | refine zY (by omega) ?_ | refine zN (by omega) ?_ | refine amin ?_ | refine amax ?_ | refine zU (by omega) ?_ | refine z8 (by omega) ?_ | refine zX (by omega) (by omega) ?_ | refine zR rfl ?_ | refine acellA ?_ | (apply zL H; (· repeat first | exact .h | apply AtK.t); (· rfl)) | (apply zA H; (· repeat first | exact .h | apply AtK.t)) | (apply zS H; (· repeat first | exact .h | apply AtK.t); (· rfl); (conv => whnf); clear H; intro τ H) | rw [List.length_map]); (refine wX ?_)))
    refine ⟨(i + 1, tk2, τ), ⟨h, H⟩, by dsimp only; omega, Sub.refl _, ?_⟩
    (refine wX ?_)
    (repeat' first | with_reducible exact EnvLe.refl _ | (refine EnvLe.node ?_ (by first | exact Or.inl rfl | exact Or.inr (Or.inl rfl) | exact Or.inr (Or.inr ⟨nofun, VLe.slice _ _ _⟩)) ?_))
  · (repeat ((first | refine zI (by omega) ?_ | refine zE (by omega) (by omega) ?_ | refine zD (by omega) (by omega) ?_ | refine zY (by omega) ?_ | refine zN (by omega) ?_ | refine amin ?_ | refine amax ?_ | refine zU (by omega) ?_ | refine z8 (by omega) ?_ | refine zX (by omega) (by omega) ?_ | refine zR rfl ?_ | refine acellA ?_ | (apply zL H; (· repeat first | exact .h | apply AtK.t); (· rfl)) | (apply zA H; (· repeat first | exact .h | apply AtK.t)) | (apply zS H; (· repeat first | exact .h | apply AtK.t); (· rfl); (conv => whnf); clear H; intro τ H) | rw [List.length_map]); (refine wX ?_)))
    obtain rfl : i = p.fs.length := by omega
    exact aret (VLe.slice _ _ _) H.sub ⟨rfl, rfl⟩
end Go.Proofs.Ytgobbmdbkmjlnaa
/-
  What goes of a packet that is cut anew; plain.
-/
namespace Go.Proofs.Ytgobbmdbkmjlnaa
set_option linter.unusedVariables false
set_option linter.unusedSimpArgs false
open Go Go.Am

/-- A byte more has room. -/
def okB (fs : List (List UInt8)) (room lw : Int) (a x : Nat) : Prop := 1 ≤ room - ((x : Int) - a) - sizeV (((pcs fs a (x + 1)).length : Int) - 1) lw
instance (fs : List (List UInt8)) (room lw : Int) (a x : Nat) : Decidable (okB fs room lw a x) := by unfold okB; infer_instance
def cutEnd (fs : List (List UInt8)) (room lw : Int) (a : Nat) : Nat → Nat → Nat
  | 0, x => x
  | k + 1, x => if okB fs room lw a x then cutEnd fs room lw a k (x + 1) else x
section
variable {fs : List (List UInt8)} {room lw : Int} {a : Nat}
theorem cutEnd_from {x t : Nat} : ∀ {k y : Nat}, y ≤ x → x ≤ y + k → (∀ z, y ≤ z → z < x → okB fs room lw a z) → (x < y + k → ¬ okB fs room lw a x) → cutEnd fs room lw a k y = x
  | 0, y, h1, h2, _, _ => by show y = x; omega
  | k + 1, y, h1, h2, h3, h4 => by
    show (if okB fs room lw a y then cutEnd fs room lw a k (y + 1) else y) = x
    by_cases e : y = x
    · subst e
      rw [if_neg (h4 (by omega))]
    · rw [if_pos (h3 y (Nat.le_refl _) (by omega))]
      exact cutEnd_from (t := t) (by omega) (by omega) (fun z g1 g2 => h3 z (by omega) g2) (fun g => h4 (by omega))
theorem cutEnd_eq {x t : Nat} (h1 : a ≤ x) (h2 : x ≤ t) (h3 : ∀ y, a ≤ y → y < x → okB fs room lw a y) (h4 : x < t → ¬ okB fs room lw a x) : cutEnd fs room lw a (t - a) a = x :=
  cutEnd_from (t := t) h1 (by omega) h3 (fun h => h4 (by omega))
theorem cutEnd_spec : ∀ (k y : Nat), y ≤ cutEnd fs room lw a k y ∧ cutEnd fs room lw a k y ≤ y + k ∧ (∀ z, y ≤ z → z < cutEnd fs room lw a k y → okB fs room lw a z) ∧ (cutEnd fs room lw a k y < y + k → ¬ okB fs room lw a (cutEnd fs room lw a k y))
  | 0, y => ⟨Nat.le_refl _, Nat.le_refl _, fun z h1 h2 => by have : z < y := h2; omega, fun h => by have : y < y + 0 := h; omega⟩
  | k + 1, y => by
    have e : cutEnd fs room lw a (k + 1) y = if okB fs room lw a y then cutEnd fs room lw a k (y + 1) else y := rfl
    rw [e]
    by_cases hk : okB fs room lw a y
    · rw [if_pos hk]
      obtain ⟨h1, h2, h3, h4⟩ := cutEnd_spec k (y + 1)
      refine ⟨by omega, by omega, fun z g1 g2 => ?_, fun g => h4 (by omega)⟩
      by_cases ez : z = y
      · rw [ez]; exact hk
      · exact h3 z (by omega) g2
    · rw [if_neg hk]
      exact ⟨Nat.le_refl _, by omega, fun z h1 h2 => by omega, fun _ => hk⟩
end
theorem edge_between {fs : List (List UInt8)} {f x : Nat} (hf : f < fs.length) (h1 : total (fs.take f) < x) (h2 : x < total (fs.take (f + 1))) : edge fs x = false := by
  refine Bool.eq_false_iff.2 fun h => ?_
  obtain ⟨i, hi, e⟩ := edge_iff.1 h
  rcases Nat.lt_or_ge f i with hfi | hfi
  · have := total_take_le (fs.take i) (f + 1)
    rw [List.take_take, Nat.min_eq_left (by omega)] at this
    omega
  · have := total_take_le (fs.take f) i
    rw [List.take_take, Nat.min_eq_left hfi] at this
    omega
theorem edge_take {fs : List (List UInt8)} {f : Nat} (hf : f ≤ fs.length) : edge fs (total (fs.take f)) = true := edge_iff.2 ⟨f, hf, rfl⟩
def wth (fi : Int) : Bool := decide (2 ≤ fi)
def ctg (fi : Int) : Bool := decide (fi % 2 = 1)
def cutFi (p : Pk) (a x : Nat) : Int := (if edge p.fs a = false ∨ (a = 0 ∧ wth p.fi = true) then 2 else 0) + (if edge p.fs x = false ∨ (x = total p.fs ∧ ctg p.fi = true) then 1 else 0)
def cutPk (p : Pk) (a x : Nat) : Pk := ⟨false, cutFi p a x, p.sn, true, decide (x = total p.fs), a, pcs p.fs a x⟩
def pk0 : Pk := ⟨false, 0, 0, false, false, 0, []⟩
def cutAt (p : Pk) (a t g w : Int) : Nat := cutEnd p.fs (min g 4000 - amHead true w) (lenW w) a.toNat (t.toNat - a.toNat) a.toNat
def goes (p : Pk) (a t g w : Int) : Prop := a = 0 ∧ t = total p.fs ∧ amSize p w ≤ g
instance (p : Pk) (a t g w : Int) : Decidable (goes p a t g w) := by unfold goes; infer_instance
def badArg (p : Pk) (a t g : Int) : Prop := g < 0 ∨ g > 4096 ∨ a < 0 ∨ a ≥ t ∨ t > total p.fs
instance (p : Pk) (a t g : Int) : Decidable (badArg p a t g) := by unfold badArg; infer_instance
def noForm (p : Pk) (w : Int) : Prop := p.part = true ∨ ¬ amSize p w > 0
instance (p : Pk) (w : Int) : Decidable (noForm p w) := by unfold noForm; infer_instance
def cutRes (p : Pk) (a t g w : Int) : Pk × Int × Int :=
  if noForm p w then (pk0, 0, 3)
  else if badArg p a t g then (pk0, 0, 1)
  else if goes p a t g w then ({ p with poll := false }, t, 0)
  else if cutAt p a t g w = a.toNat then (pk0, 0, 16)
  else (cutPk p a.toNat (cutAt p a t g w), (cutAt p a t g w : Int), 0)
end Go.Proofs.Ytgobbmdbkmjlnaa
