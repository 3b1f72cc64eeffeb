/-
  Texts of this claim, pack 9: Crxbh, Cpkx, Cgreat, Claw24a, Claw24b, Claw24c.
-/
import Derived.Test.YtgobbmdbkmjlnaaK4
import Derived.Test.YtgobbmdbkmjlnaaK6
import Derived.Test.YtgobbmdbkmjlnaaK8
/-
  What came in parts: what Put and Take do with a buffer, whatever pieces it has.
-/
namespace Go.Proofs.Ytgobbmdbkmjlnaa
set_option linter.unusedVariables false
set_option linter.unusedSimpArgs false
set_option maxRecDepth 20000
open Go Go.Am

theorem putK_zero {p : Pk} {l : List Sp} {e : Int} (h : putK p l e = 0) : rightB p = true ∧ fitsC l e (spanP p) (endsB p) = 0 ∧ addC (spanP p) l = 0 := by
  unfold putK at h
  split at h
  · cases h
  · rename_i hr
    have hr : rightB p = true := by simpa using hr
    split at h
    · rename_i hc; exact absurd h hc
    · rename_i hc
      exact ⟨hr, Decidable.byContradiction hc, h⟩
theorem PV.Ok.upd {x : PV} (h : x.Ok) {p : Pk} (hk : putK p x.l x.e = 0) : (updV x p).Ok := by
  obtain ⟨hr, hc, ha⟩ := putK_zero hk
  obtain ⟨g1, g2, g3, g4, g5, g6, g7, g8, g9⟩ := right_ok hr
  have htl : p.fs.flatten.length = total p.fs := rfl
  have hlen : (fillB x.l p.off.toNat p.fs.flatten x.D).length = max x.D.length (p.off.toNat + p.fs.flatten.length) := fillB_len _ _ _ _
  have hdl := h.dl
  refine ⟨h.so.add _, fun y hy => ?_, ?_, h.em.noteM, h.sn⟩
  · have hn := (h.so.add (spanP p)).n.mem hy
    have hp : hasP (addS (spanP p) x.l) (y.2 - 1) := ⟨y, hy, by omega, by omega⟩
    show y.2 ≤ ((fillB x.l p.off.toNat p.fs.flatten x.D).length : Int)
    rw [hlen]
    rcases (add_has h.so ha _).1 hp with ⟨z, hz, h1, h2⟩ | ⟨h1, h2⟩
    · have := h.inD z hz; omega
    · unfold spanP at h2; dsimp only at h2; omega
  · show (fillB x.l p.off.toNat p.fs.flatten x.D).length ≤ 4000
    rw [hlen]; omega
theorem PV.Ok.fresh {sn : Int} (h : inR sn) : (freshV sn).Ok := ⟨SOk.nil, nofun, by simp [freshV], nofun, h⟩
theorem map_upd {A B : List PV} {x : PV} {p : Pk} (hx : x.sn = p.sn) (hA : ∀ y ∈ A, y.sn ≠ p.sn) (hB : ∀ y ∈ B, y.sn ≠ p.sn) :
    (A ++ x :: B).map (fun x => if x.sn = p.sn then updV x p else x) = A ++ updV x p :: B := by
  have id_ : ∀ (L : List PV), (∀ y ∈ L, y.sn ≠ p.sn) → L.map (fun x => if x.sn = p.sn then updV x p else x) = L := by
    intro L hL
    induction L with
    | nil => rfl
    | cons a L ih => rw [List.map_cons, if_neg (hL a (List.mem_cons_self ..)), ih fun y hy => hL y (List.mem_cons_of_mem _ hy)]
  rw [List.map_append, List.map_cons, if_pos hx, id_ A hA, id_ B hB]
section
variable {σb σ : AHeap} {ib im : Nat} {X A B : List PX} {x : PX} {G : List HE}
theorem XOk.swap {x' : PX} (ok : XOk (A ++ x :: B)) (hs : x'.pv.sn = x.pv.sn) (h1 : x'.pv.Ok) (h2 : RB x'.v x'.pv.D x'.E) : XOk (A ++ x' :: B) := by
  refine ⟨?_, fun y hy => ?_, fun y hy => ?_, ?_⟩
  · have := ok.nd
    rw [List.map_append, List.map_cons] at this ⊢
    rw [hs]; exact this
  · rcases List.mem_append.1 hy with hy | hy
    · exact ok.ok y (by simp [hy])
    · rcases List.mem_cons.1 hy with rfl | hy
      · exact h1
      · exact ok.ok y (by simp [hy])
  · rcases List.mem_append.1 hy with hy | hy
    · exact ok.rb y (by simp [hy])
    · rcases List.mem_cons.1 hy with rfl | hy
      · exact h2
      · exact ok.rb y (by simp [hy])
  · have := ok.len
    simp at this ⊢; exact this
theorem xPut (H : Hp σb (XL ib im X G) σ) (ok : XOk X) (hlen : X.length < 10000) (p : Pk) (hl : p.fs.length ≤ 1000) (ht : total p.fs ≤ 1000000) (hsn : inR p.sn) :
    ACalls Try.prog i_rxbuf_Buffer_Put [.ptr ib 0, amV p] σ fun r σ' => r = i64v (putS (pvs X) p) ∧ ∃ X', Hp σb (XL ib im X' G) σ' ∧ pvs X' = putV (pvs X) p ∧ XOk X' ∧ X'.length ≤ X.length + 1 := by
  rcases findX ok.nd p.sn with ⟨A, x, B, hX, h1, h2, h3, h4, h5⟩ | ⟨h1, h2, h3⟩
  · have hx : x ∈ X := by rw [hX]; simp
    have hxo := ok.ok x hx
    have hdl := hxo.dl
    have hS : putS (pvs X) p = putK p x.pv.l x.pv.e := by unfold putS lS eS; rw [h3]
    have hV : putV (pvs X) p = if putK p x.pv.l x.pv.e ≠ 0 then pvs X else (pvs X).map fun x => if x.sn = p.sn then updV x p else x := by unfold putV; rw [hS, h3]
    rw [hS, hV]
    subst hX
    refine acall_less (buPutOld (ok.rb x hx) (XL.outX H) p h2 hxo.so (by omega) hl ht) ?_
    rintro _ σ' ⟨rfl, ⟨hk, u, K⟩ | ⟨hk, v2, E2, u, hr, K⟩⟩
    · refine ⟨_, _, VLe.refl _, Sub.refl _, rfl, A ++ { x with tk := u } :: B, ?_, ?_, ok.swap rfl hxo (ok.rb x hx), by simp⟩
      · have e : esX (A ++ { x with tk := u } :: B) = esX (A ++ x :: B) := by simp [esX]
        show Hp σb (.o ib (.cells (buC im)) :: .o im (.map (esX (A ++ { x with tk := u } :: B))) :: (flatX (A ++ { x with tk := u } :: B) ++ G)) σ'
        rw [e]
        exact XL.backX (x := { x with tk := u }) K
      · rw [if_pos hk]; simp [pvs]
    · have hpo := PV.Ok.upd hxo hk
      let x' : PX := ⟨updV x.pv p, x.ip, x.is, x.ig, v2, E2, u⟩
      refine ⟨_, _, VLe.refl _, Sub.refl _, rfl, A ++ x' :: B, ?_, ?_, ok.swap rfl hpo hr, by simp⟩
      · have e : esX (A ++ x' :: B) = esX (A ++ x :: B) := by simp [esX, x', updV]
        show Hp σb (.o ib (.cells (buC im)) :: .o im (.map (esX (A ++ x' :: B))) :: (flatX (A ++ x' :: B) ++ G)) σ'
        rw [e]
        exact XL.backX (x := x') K
      · rw [if_neg (by simpa using hk)]
        show (A ++ x' :: B).map (·.pv) = ((A ++ x :: B).map (·.pv)).map _
        rw [List.map_append, List.map_append, List.map_cons, List.map_cons]
        refine (map_upd h1 (fun y hy => ?_) (fun y hy => ?_)).symm
        · obtain ⟨z, hz, rfl⟩ := List.mem_map.1 hy; exact h4 z hz
        · obtain ⟨z, hz, rfl⟩ := List.mem_map.1 hy; exact h5 z hz
  · have hS : putS (pvs X) p = putK p [] (-1) := by unfold putS lS eS; rw [h3]
    have hV : putV (pvs X) p = if putK p [] (-1) ≠ 0 then pvs X else pvs X ++ [updV (freshV p.sn) p] := by unfold putV; rw [hS, h3]
    rw [hS, hV]
    refine acall_less (buPutNew H p h2 hl ht) ?_
    rintro _ σ' ⟨rfl, ⟨hk, K⟩ | ⟨hk, ip, is, ig, v2, E2, u, hr, K⟩⟩
    · exact ⟨_, _, VLe.refl _, Sub.refl _, rfl, X, K, by rw [if_pos hk], ok, by omega⟩
    · have hpo := PV.Ok.upd (PV.Ok.fresh hsn) (p := p) hk
      let x' : PX := ⟨updV (freshV p.sn) p, ip, is, ig, v2, E2, u⟩
      refine ⟨_, _, VLe.refl _, Sub.refl _, rfl, X ++ [x'], ?_, by rw [if_neg (by simpa using hk)]; simp [pvs, x'], ?_, by simp⟩
      · have e : esX (X ++ [x']) = esX X ++ [(p.sn, .ptr ip 0)] := by simp [esX, x', updV, freshV]
        show Hp σb (.o ib (.cells (buC im)) :: .o im (.map (esX (X ++ [x']))) :: (flatX (X ++ [x']) ++ G)) σ'
        rw [e]
        refine XL.backX (A := X) (B := []) (x := x') ?_
        exact Hp.mid2 (A := x'.hd ++ [.o ib (.cells (buC im)), .o im (.map (esX X ++ [(p.sn, .ptr ip 0)]))]) (B := []) (C := E2) (D := flatX X ++ G) K
      · refine ⟨?_, fun y hy => ?_, fun y hy => ?_, ?_⟩
        · rw [List.map_append]
          refine List.nodup_append.2 ⟨ok.nd, by simp, fun a ha b hb e => ?_⟩
          obtain ⟨z, hz, rfl⟩ := List.mem_map.1 ha
          simp [x', updV, freshV] at hb
          exact h1 z hz (by rw [e, hb])
        · rcases List.mem_append.1 hy with hy | hy
          · exact ok.ok y hy
          · rw [List.mem_singleton.1 hy]; exact hpo
        · rcases List.mem_append.1 hy with hy | hy
          · exact ok.rb y hy
          · rw [List.mem_singleton.1 hy]; exact hr
        · simp; omega
/-- What Take leaves. -/
def takeS (S : List PV) (sn : Int) : List PV := if wholeS S sn = true then S.filter fun x => decide (x.sn ≠ sn) else S
def takeC (S : List PV) (sn : Int) : Int := match findS S sn with
  | none => 4
  | some x => if wholeV x.l x.e = true then 0 else 8
def takeF (S : List PV) (sn : Int) : Int × List (List UInt8) := match findS S sn with
  | none => (0, [])
  | some x => if wholeV x.l x.e = true then (x.fi, (takeN x.D x.em x.e x.e.toNat).1) else (0, [])
theorem mapDel_split {A B : List PX} {x : PX} {sn : Int} (hx : x.pv.sn = sn) (hA : ∀ y ∈ A, y.pv.sn ≠ sn) : mapDel (esX (A ++ x :: B)) sn = esX (A ++ B) := by
  induction A with
  | nil => simp [esX, mapDel, hx]
  | cons a A ih =>
    have := ih fun y hy => hA y (List.mem_cons_of_mem _ hy)
    have h0 := hA a (List.mem_cons_self ..)
    simp [esX, mapDel, h0] at this ⊢
    exact this
theorem xTake (H : Hp σb (XL ib im X G) σ) (ok : XOk X) (sn : Int) :
    ACalls Try.prog i_rxbuf_Buffer_Take [.ptr ib 0, i64v sn] σ fun r σ' => r = .tup [i64v (takeF (pvs X) sn).1, lists .none (takeF (pvs X) sn).2, i64v (takeC (pvs X) sn)] ∧ ∃ X', Hp σb (XL ib im X' G) σ' ∧ pvs X' = takeS (pvs X) sn ∧ XOk X' ∧ X'.length ≤ X.length := by
  unfold takeF takeC takeS wholeS
  rcases findX ok.nd sn with ⟨A, x, B, hX, h1, h2, h3, h4, h5⟩ | ⟨h1, h2, h3⟩
  · have hx : x ∈ X := by rw [hX]; simp
    have hxo := ok.ok x hx
    have hdl := hxo.dl
    rw [h3]
    dsimp only
    rcases (show wholeV x.pv.l x.pv.e = false ∨ wholeV x.pv.l x.pv.e = true by cases wholeV x.pv.l x.pv.e <;> simp) with hw | hw
    · rw [if_neg (by rw [hw]; simp), if_neg (by rw [hw]; simp), if_neg (by rw [hw]; simp)]
      obtain ⟨g1, g2⟩ := XL.at_ H hx
      refine acall_less (buTakeShort (H.get (k := 0) rfl) (H.get (k := 1) rfl) sn h2 g1 g2 hxo.so hw) ?_
      rintro _ σ' ⟨rfl, rfl⟩
      exact ⟨_, _, VLe.tup (VLe.cons (VLe.refl _) (VLe.cons (VLe.slice _ _ _) fun _ _ h => h)), Sub.refl _, rfl, X, H, rfl, ok, Nat.le_refl _⟩
    · rw [if_pos hw, if_pos hw, if_pos hw]
      have hD : x.pv.e ≤ (x.pv.D.length : Int) := by
        unfold wholeV hasS at hw
        rw [Bool.and_eq_true, Bool.and_eq_true] at hw
        obtain ⟨y, hy, h⟩ := List.any_eq_true.1 hw.2.2
        have := hxo.inD y hy
        have := of_decide_eq_true h
        dsimp only at this
        omega
      subst hX
      have K := XL.outX H
      replace K : Hp σb (.o ib (.cells (buC im)) :: .o im (.map (esX (A ++ x :: B))) :: (x.hd ++ (x.E ++ (flatX A ++ (flatX B ++ G))))) σ := Hp.mid (A := x.hd) (B := [.o ib (.cells (buC im)), .o im (.map (esX (A ++ x :: B)))]) K
      refine acall_less (buTake (ok.rb x hx) K sn h2 hxo.so hw hD (by omega) hxo.em) ?_
      rintro _ σ' ⟨rfl, K⟩
      rw [mapDel_split h1 h4] at K
      refine ⟨_, _, VLe.refl _, Sub.refl _, rfl, A ++ B, ?_, ?_, ?_, by simp⟩
      · have K := Hp.rest (A := x.hd) (Hp.mid (A := [.o ib (.cells (buC im)), .o im (.map (esX (A ++ B)))]) (B := x.hd) K)
        have K := Hp.rest (A := x.E) (Hp.mid (A := [.o ib (.cells (buC im)), .o im (.map (esX (A ++ B)))]) (B := x.E) K)
        show Hp σb (.o ib (.cells (buC im)) :: .o im (.map (esX (A ++ B))) :: (flatX (A ++ B) ++ G)) σ'
        rw [flatX_append, List.append_assoc]
        exact K
      · show (A ++ B).map (·.pv) = ((A ++ x :: B).map (·.pv)).filter _
        rw [List.map_append, List.map_append, List.map_cons, List.filter_append, List.filter_cons]
        rw [if_neg (by simp [h1])]
        rw [List.filter_eq_self.2, List.filter_eq_self.2]
        · intro y hy; obtain ⟨z, hz, rfl⟩ := List.mem_map.1 hy; exact decide_eq_true (h5 z hz)
        · intro y hy; obtain ⟨z, hz, rfl⟩ := List.mem_map.1 hy; exact decide_eq_true (h4 z hz)
      · refine ⟨?_, fun y hy => ok.ok y ?_, fun y hy => ok.rb y ?_, ?_⟩
        · have := ok.nd
          rw [List.map_append, List.map_cons] at this
          rw [List.map_append]
          exact this.sublist (List.Sublist.append_left (List.sublist_cons_self _ _) _)
        · rcases List.mem_append.1 hy with hy | hy <;> simp [hy]
        · rcases List.mem_append.1 hy with hy | hy <;> simp [hy]
        · have := ok.len
          simp at this ⊢; omega
  · rw [h3]
    dsimp only
    rw [if_neg (by simp)]
    refine acall_less (buTakeNone (H.get (k := 0) rfl) (H.get (k := 1) rfl) sn h2) ?_
    rintro _ σ' ⟨rfl, rfl⟩
    exact ⟨_, _, VLe.tup (VLe.cons (VLe.refl _) (VLe.cons (VLe.slice _ _ _) fun _ _ h => h)), Sub.refl _, rfl, X, H, rfl, ok, Nat.le_refl _⟩
end
end Go.Proofs.Ytgobbmdbkmjlnaa
/-
  Packets that may be, and packets given back or handed on with rights to their rows.
-/
namespace Go.Proofs.Ytgobbmdbkmjlnaa
set_option linter.unusedVariables false
set_option linter.unusedSimpArgs false
open Go Go.Am

structure FldsOk (l : List (List UInt8)) (h w : Int) : Prop where
  one : 1 ≤ l.length
  most : l.length ≤ 24
  each : ∀ i, (hi : i < l.length) → 1 ≤ l[i].length ∧ (i + 1 < l.length → l[i].length ≤ 2047)
  fits : h + sizeV ((l.length : Int) - 1) w + (total l : Int) ≤ 4000
theorem fieldsV_ok' {l : List (List UInt8)} {h w : Int} (k : fieldsV l h w > 0) : FldsOk l h w := by
  unfold fieldsV at k
  split at k
  · omega
  · rename_i h1
    split at k
    · omega
    · rename_i h2
      split at k
      · omega
      · rename_i h3
        refine ⟨by omega, by omega, fun i hi => ?_, by omega⟩
        have hb : fieldBad l i = false := Bool.eq_false_iff.2 fun hb => h2 (fieldsBad_of hi hb)
        rw [fieldBad_get hi] at hb
        have := of_decide_eq_false hb
        omega
theorem amSize_ok {p : Pk} {w : Int} (h : amSize p w > 0) : (w = 10 ∨ w = 16) ∧ 0 ≤ p.fi ∧ p.fi ≤ 3 ∧ isNum w p.sn = true ∧ FldsOk p.fs (amHead p.part w) (lenW w) ∧ 0 ≤ p.off ∧ p.off < offTop w ∧ (p.part = false → p.last = false ∧ p.off = 0) := by
  unfold amSize at h
  split at h
  · omega
  · rename_i hb
    have h1 : amWidth w = true := by
      cases e : amWidth w with
      | true => rfl
      | false => exact absurd (.inl (.inl e)) hb
    have h2 : isNum w p.sn = true := by
      cases e : isNum w p.sn with
      | true => rfl
      | false => exact absurd (.inl (.inr (.inr (.inr e)))) hb
    refine ⟨amWidth_iff.1 h1, ?_, ?_, h2, fieldsV_ok' h, ?_, ?_, fun hp => ⟨?_, ?_⟩⟩
    · exact Decidable.byContradiction fun e => hb (.inl (.inr (.inl (by omega))))
    · exact Decidable.byContradiction fun e => hb (.inl (.inr (.inr (.inl (by omega)))))
    · exact Decidable.byContradiction fun e => hb (.inr (.inr (.inl (by omega))))
    · exact Decidable.byContradiction fun e => hb (.inr (.inr (.inr (by omega))))
    · exact Bool.eq_false_iff.2 fun e => hb (.inr (.inl ⟨hp, .inl e⟩))
    · exact Decidable.byContradiction fun e => hb (.inr (.inl ⟨hp, .inr e⟩))
abbrev TB := Tok × List UInt8
abbrev slB (x : TB) : AVal := sl x.1 x.2
theorem RepL.tbs (κ : Ghost) : ∀ {l : List TB} {vs : List Value}, RepL κ ((l.map slB).flatMap AVal.cells) vs → RepL κ (((l.map (·.2)).map (sl .none)).flatMap AVal.cells) vs
  | [], _, h => h
  | a :: l, _, h => by
    have h : RepL κ (slB a :: (l.map slB).flatMap AVal.cells) _ := h
    cases h with
    | cons h1 h2 => exact .cons (VLe.slice _ _ _ κ _ h1) (RepL.tbs κ h2)
theorem VLe.tbs (l : List TB) (t : Tok) : VLe (.slice 1 (l.map slB) t) (lists .none (l.map (·.2))) := fun κ v h => by
  rcases h.slice_inv with ⟨⟨a, rfl⟩, hn⟩ | ⟨b, off, cap, vs, rfl, g2, g3, g4, g5, g6⟩
  · have hn : l = [] := by simpa using hn
    subst hn; exact .nil
  · refine .slice (vs := vs) (by rw [List.length_map, List.length_map, List.length_map]) g2 (fun x hx => ?_) (RepL.tbs κ g4) g5 trivial
    obtain ⟨y, _, rfl⟩ := List.mem_map.1 hx
    rfl
theorem VLe.aggA {xs ys : List AVal} (h : ∀ κ vs, RepL κ xs vs → RepL κ ys vs) : VLe (.agg xs) (.agg ys) := fun κ v k => by
  cases k with
  | agg r => exact .agg (h _ _ r)
/-- A packet that is given back, whatever may be appended to its fields. -/
theorem aret_pkt {a b c d e f : AVal} {l : List TB} {t : Tok} {ys : List AVal} {σ σ2 : AHeap} {Q : AVal → AHeap → Prop} (hs : Sub σ σ2) (h : Q (.tup (.agg [a, b, c, d, e, f, lists .none (l.map (·.2))] :: ys)) σ2) : ARet (.tup (.agg [a, b, c, d, e, f, .slice 1 (l.map slB) t] :: ys)) σ Q :=
  aret (VLe.tup (VLe.cons (VLe.aggA (VLe.cons (VLe.refl _) (VLe.cons (VLe.refl _) (VLe.cons (VLe.refl _) (VLe.cons (VLe.refl _) (VLe.cons (VLe.refl _) (VLe.cons (VLe.refl _) (VLe.cons (VLe.tbs _ _) VLe.nil)))))))) fun _ _ h => h)) hs h
theorem aret_pkt0 {a b c d e f : AVal} {t : Tok} {ys : List AVal} {σ σ2 : AHeap} {Q : AVal → AHeap → Prop} (hs : Sub σ σ2) (h : Q (.tup (.agg [a, b, c, d, e, f, .slice 1 [] .none] :: ys)) σ2) : ARet (.tup (.agg [a, b, c, d, e, f, .slice 1 [] t] :: ys)) σ Q := aret_pkt (l := []) hs h
end Go.Proofs.Ytgobbmdbkmjlnaa
/-
  Fields that are too much for a statement.
-/
namespace Go.Proofs.Ytgobbmdbkmjlnaa
set_option linter.unusedVariables false
set_option linter.unusedSimpArgs false
open Go Go.Am

def smallG (l : List (List UInt8)) : Prop := l.length ≤ 40 ∧ ∀ p ∈ l, p.length ≤ 4200
theorem gGreat (l : List (List UInt8)) (t : Tok) (σ : AHeap) (hl : l.length ≤ 9223372036854775807) : ACalls Try.prog i_bowlinelaw09_Great [lists t l] σ fun v σ' => (∃ g, v = boolv g ∧ (g = false → smallG l)) ∧ σ' = σ := by
  refine k_bowlinelaw09_Great rfl ?_
  ((conv => whnf); (repeat ((first | with_reducible (first | refine zT rfl ?_ | refine zF rfl ?_ | refine zY rfl ?_) | refine zY (by decide) ?_ | refine zN (by decide) ?_ | with_reducible refine zQ ?_); (conv => whnf))))
  refine aloop (α := Nat × Nat) (fun x => [(s3, i64v x.2), (s4, i64v x.1)]) (fun _ => σ) (fun x => x.1 ≤ l.length ∧ (0 < x.1 → l.length ≤ 40) ∧ x.2 ≤ 4200 * x.1 ∧ ∀ p ∈ l.take x.1, p.length ≤ 4200) (fun x => l.length - x.1) (0, 0) ⟨Nat.zero_le _, fun h => by omega, Nat.le_refl _, by simp⟩ (Sub.refl _) ?_ ?_
  · ((conv => whnf); (repeat ((first | with_reducible (first | refine zT rfl ?_ | refine zF rfl ?_ | refine zY rfl ?_) | refine zY (by decide) ?_ | refine zN (by decide) ?_ | with_reducible refine zQ ?_); (conv => whnf))))
    (repeat' first | with_reducible exact EnvLe.refl _ | (refine EnvLe.node ?_ (by first | exact Or.inl rfl | exact Or.inr (Or.inl rfl) | exact Or.inr (Or.inr ⟨nofun, VLe.slice _ _ _⟩)) ?_))
  rintro ⟨i, n⟩ ⟨hi, h40, hn, ha⟩
  dsimp only at hi h40 hn ha ⊢
  by_cases h : i < l.length
  · by_cases h1 : l.length > 40
    · ((conv => whnf); (repeat ((first | with_reducible (first | refine zT rfl ?_ | refine zF rfl ?_ | refine zY rfl ?_) | refine zY (by decide) ?_ | refine zN (by decide) ?_ | with_reducible refine zQ ?_); (conv => whnf))))
      (repeat ((first | refine aload (by (repeat (first | with_reducible exact upd_same _ _ _ | assumption | rw [upd_ne _ _ (by first | assumption | (apply Ne.symm; assumption))]))) rfl ?_ | refine afit_i64 (by omega) ?_ | refine arem_nonneg (by omega) (by omega) ?_ | refine adiv_i64 (by omega) (by omega) ?_ | refine abr_yes (by omega) ?_ | refine abr_no (by omega) ?_ | refine amin ?_ | refine amax ?_ | refine afit_u64 (by omega) ?_ | refine afit_u8 (by omega) ?_ | rw [List.length_map]); ((conv => whnf); (repeat ((first | with_reducible (first | refine zT rfl ?_ | refine zF rfl ?_ | refine zY rfl ?_) | refine zY (by decide) ?_ | refine zN (by decide) ?_ | with_reducible refine zQ ?_); (conv => whnf))))))
      exact aret_same ⟨⟨true, rfl, nofun⟩, rfl⟩
    · ((conv => whnf); (repeat ((first | with_reducible (first | refine zT rfl ?_ | refine zF rfl ?_ | refine zY rfl ?_) | refine zY (by decide) ?_ | refine zN (by decide) ?_ | with_reducible refine zQ ?_); (conv => whnf))))
      (repeat ((first | refine aload (by (repeat (first | with_reducible exact upd_same _ _ _ | assumption | rw [upd_ne _ _ (by first | assumption | (apply Ne.symm; assumption))]))) rfl ?_ | refine afit_i64 (by omega) ?_ | refine arem_nonneg (by omega) (by omega) ?_ | refine adiv_i64 (by omega) (by omega) ?_ | refine abr_yes (by omega) ?_ | refine abr_no (by omega) ?_ | refine amin ?_ | refine amax ?_ | refine afit_u64 (by omega) ?_ | refine afit_u8 (by omega) ?_ | rw [List.length_map]); ((conv => whnf); (repeat ((first | with_reducible (first | refine zT rfl ?_ | refine zF rfl ?_ | refine zY rfl ?_) | refine zY (by decide) ?_ | refine zN (by decide) ?_ | with_reducible refine zQ ?_); (conv => whnf))))))
      refine aget (by omega) (get_lists h) ?_
      ((conv => whnf); (repeat ((first | with_reducible (first | refine zT rfl ?_ | refine zF rfl ?_ | refine zY rfl ?_) | refine zY (by decide) ?_ | refine zN (by decide) ?_ | with_reducible refine zQ ?_); (conv => whnf))))
      refine acell rfl ?_
      ((conv => whnf); (repeat ((first | with_reducible (first | refine zT rfl ?_ | refine zF rfl ?_ | refine zY rfl ?_) | refine zY (by decide) ?_ | refine zN (by decide) ?_ | with_reducible refine zQ ?_); (conv => whnf))))
      rw [List.length_map]
      by_cases h2 : l[i].length > 4200
      · refine abr_yes (by omega) ?_
        ((conv => whnf); (repeat ((first | with_reducible (first | refine zT rfl ?_ | refine zF rfl ?_ | refine zY rfl ?_) | refine zY (by decide) ?_ | refine zN (by decide) ?_ | with_reducible refine zQ ?_); (conv => whnf))))
        exact aret_same ⟨⟨true, rfl, nofun⟩, rfl⟩
      · refine abr_no (by omega) ?_
        ((conv => whnf); (repeat ((first | with_reducible (first | refine zT rfl ?_ | refine zF rfl ?_ | refine zY rfl ?_) | refine zY (by decide) ?_ | refine zN (by decide) ?_ | with_reducible refine zQ ?_); (conv => whnf))))
        refine aget (by omega) (get_lists h) ?_
        ((conv => whnf); (repeat ((first | with_reducible (first | refine zT rfl ?_ | refine zF rfl ?_ | refine zY rfl ?_) | refine zY (by decide) ?_ | refine zN (by decide) ?_ | with_reducible refine zQ ?_); (conv => whnf))))
        refine acell rfl ?_
        ((conv => whnf); (repeat ((first | with_reducible (first | refine zT rfl ?_ | refine zF rfl ?_ | refine zY rfl ?_) | refine zY (by decide) ?_ | refine zN (by decide) ?_ | with_reducible refine zQ ?_); (conv => whnf))))
        (repeat ((first | refine aload (by (repeat (first | with_reducible exact upd_same _ _ _ | assumption | rw [upd_ne _ _ (by first | assumption | (apply Ne.symm; assumption))]))) rfl ?_ | refine afit_i64 (by omega) ?_ | refine arem_nonneg (by omega) (by omega) ?_ | refine adiv_i64 (by omega) (by omega) ?_ | refine abr_yes (by omega) ?_ | refine abr_no (by omega) ?_ | refine amin ?_ | refine amax ?_ | refine afit_u64 (by omega) ?_ | refine afit_u8 (by omega) ?_ | rw [List.length_map]); ((conv => whnf); (repeat ((first | with_reducible (first | refine zT rfl ?_ | refine zF rfl ?_ | refine zY rfl ?_) | refine zY (by decide) ?_ | refine zN (by decide) ?_ | with_reducible refine zQ ?_); (conv => whnf))))))
        refine ⟨(i + 1, n + l[i].length), ⟨h, fun _ => by omega, by dsimp only; omega, ?_⟩, by dsimp only; omega, Sub.refl _, ?_⟩
        · dsimp only
          rw [List.take_add_one, List.getElem?_eq_getElem h]
          intro p hp
          rcases List.mem_append.1 hp with h | h
          · exact ha p h
          · simp at h; subst h; omega
        · rw [show (n : Int) + ((l[i].length : Nat) : Int) = ((n + l[i].length : Nat) : Int) by omega]
          ((conv => whnf); (repeat ((first | with_reducible (first | refine zT rfl ?_ | refine zF rfl ?_ | refine zY rfl ?_) | refine zY (by decide) ?_ | refine zN (by decide) ?_ | with_reducible refine zQ ?_); (conv => whnf))))
          (repeat' first | with_reducible exact EnvLe.refl _ | (refine EnvLe.node ?_ (by first | exact Or.inl rfl | exact Or.inr (Or.inl rfl) | exact Or.inr (Or.inr ⟨nofun, VLe.slice _ _ _⟩)) ?_))
  · rw [List.take_of_length_le (by omega)] at ha
    ((conv => whnf); (repeat ((first | with_reducible (first | refine zT rfl ?_ | refine zF rfl ?_ | refine zY rfl ?_) | refine zY (by decide) ?_ | refine zN (by decide) ?_ | with_reducible refine zQ ?_); (conv => whnf))))
    (repeat ((first | refine aload (by (repeat (first | with_reducible exact upd_same _ _ _ | assumption | rw [upd_ne _ _ (by first | assumption | (apply Ne.symm; assumption))]))) rfl ?_ | refine afit_i64 (by omega) ?_ | refine arem_nonneg (by omega) (by omega) ?_ | refine adiv_i64 (by omega) (by omega) ?_ | refine abr_yes (by omega) ?_ | refine abr_no (by omega) ?_ | refine amin ?_ | refine amax ?_ | refine afit_u64 (by omega) ?_ | refine afit_u8 (by omega) ?_ | rw [List.length_map]); ((conv => whnf); (repeat ((first | with_reducible (first | refine zT rfl ?_ | refine zF rfl ?_ | refine zY rfl ?_) | refine zY (by decide) ?_ | refine zN (by decide) ?_ | with_reducible refine zQ ?_); (conv => whnf))))))
    refine aret_same ⟨⟨_, rfl, fun _ => ⟨?_, ha⟩⟩, rfl⟩
    by_cases h0 : l.length = 0
    · omega
    · exact h40 (by omega)
end Go.Proofs.Ytgobbmdbkmjlnaa
/-
  Statements of what came in parts: what must come of fixed calls.
-/
namespace Go.Proofs.Ytgobbmdbkmjlnaa
set_option linter.unusedVariables false
set_option linter.unusedSimpArgs false
set_option maxRecDepth 20000
open Go Go.Am

theorem pk_argsX {x a b c d e f : AVal} (l : List TB) (t : Tok) : ∀ κ vs, RepL κ [x, .agg [a, b, c, d, e, f, .slice 1 (l.map slB) t]] vs → RepL κ [x, .agg [a, b, c, d, e, f, lists .none (l.map (·.2))]] vs :=
  VLe.cons (VLe.refl _) (VLe.cons (VLe.aggA (VLe.cons (VLe.refl _) (VLe.cons (VLe.refl _) (VLe.cons (VLe.refl _) (VLe.cons (VLe.refl _) (VLe.cons (VLe.refl _) (VLe.cons (VLe.refl _) (VLe.cons (VLe.tbs _ _) VLe.nil)))))))) VLe.nil)
theorem acall_weakX {P : Program} {f : FuncId} {args args' : List AVal} {σ : AHeap} {Q : AVal → AHeap → Prop} (h : ∀ κ vs, RepL κ args vs → RepL κ args' vs) (k : ACalls P f args' σ Q) : ACalls P f args σ Q := by
  rw [ACalls_def] at k ⊢
  exact fun κ w cargs hI hr => k κ w cargs hI (h κ cargs hr)
theorem inR_ofX {n : Int} (h : -9223372036854775808 ≤ n ∧ n ≤ 9223372036854775807) : inR n := by
  have h1 : IntKind.i64.min = -9223372036854775808 := by decide
  have h2 : IntKind.i64.max = 9223372036854775807 := by decide
  simp only [inR, Lit.wf, h1, h2, Bool.and_eq_true, decide_eq_true_eq]
  exact h
theorem buNew (σ : AHeap) : ACalls Try.prog i_rxbuf_New [] σ fun v σ' => ∃ ib im, v = .ptr ib 0 ∧ Hp σ (XL ib im [] []) σ' := by
  refine k_rxbuf_New rfl ?_
  have H := Hp.nil σ
  ((conv => whnf); (repeat ((first | with_reducible (first | refine zT rfl ?_ | refine zF rfl ?_ | refine zY rfl ?_) | refine zY (by decide) ?_ | refine zN (by decide) ?_ | with_reducible refine zQ ?_); (conv => whnf))))
  refine hnewmap H ?_
  clear H
  intro im τ H
  ((conv => whnf); (repeat ((first | with_reducible (first | refine zT rfl ?_ | refine zF rfl ?_ | refine zY rfl ?_) | refine zY (by decide) ?_ | refine zN (by decide) ?_ | with_reducible refine zQ ?_); (conv => whnf))))
  (repeat ((first | refine zI (by omega) ?_ | refine zE (by omega) (by omega) ?_ | refine zD (by omega) (by omega) ?_ | refine zY (by omega) ?_ | refine zN (by omega) ?_ | refine amin ?_ | refine amax ?_ | refine zU (by omega) ?_ | refine z8 (by omega) ?_ | refine zX (by omega) (by omega) ?_ | refine zR rfl ?_ | refine acellA ?_ | refine zB H b1 rfl ?_ | refine zC H b1 ?_ | refine zB H b2 rfl ?_ | refine zC H b2 ?_ | refine zB H b3 rfl ?_ | refine zC H b3 ?_ | refine zB H b4 rfl ?_ | refine zC H b4 ?_ | (apply zL H; (· repeat first | exact .h | apply AtK.t); (· rfl)) | (apply zA H; (· repeat first | exact .h | apply AtK.t)) | (apply zS H; (· repeat first | exact .h | apply AtK.t); (· rfl); (conv => whnf); clear H; intro τ H) | rw [List.length_map]); ((conv => whnf); (repeat ((first | with_reducible (first | refine zT rfl ?_ | refine zF rfl ?_ | refine zY rfl ?_) | refine zY (by decide) ?_ | refine zN (by decide) ?_ | with_reducible refine zQ ?_); (conv => whnf))))))
  refine hnew H rfl ?_
  clear H
  intro ib τ H
  ((conv => whnf); (repeat ((first | with_reducible (first | refine zT rfl ?_ | refine zF rfl ?_ | refine zY rfl ?_) | refine zY (by decide) ?_ | refine zN (by decide) ?_ | with_reducible refine zQ ?_); (conv => whnf))))
  (repeat ((first | refine zI (by omega) ?_ | refine zE (by omega) (by omega) ?_ | refine zD (by omega) (by omega) ?_ | refine zY (by omega) ?_ | refine zN (by omega) ?_ | refine amin ?_ | refine amax ?_ | refine zU (by omega) ?_ | refine z8 (by omega) ?_ | refine zX (by omega) (by omega) ?_ | refine zR rfl ?_ | refine acellA ?_ | refine zB H b1 rfl ?_ | refine zC H b1 ?_ | refine zB H b2 rfl ?_ | refine zC H b2 ?_ | refine zB H b3 rfl ?_ | refine zC H b3 ?_ | refine zB H b4 rfl ?_ | refine zC H b4 ?_ | (apply zL H; (· repeat first | exact .h | apply AtK.t); (· rfl)) | (apply zA H; (· repeat first | exact .h | apply AtK.t)) | (apply zS H; (· repeat first | exact .h | apply AtK.t); (· rfl); (conv => whnf); clear H; intro τ H) | rw [List.length_map]); ((conv => whnf); (repeat ((first | with_reducible (first | refine zT rfl ?_ | refine zF rfl ?_ | refine zY rfl ?_) | refine zY (by decide) ?_ | refine zN (by decide) ?_ | with_reducible refine zQ ?_); (conv => whnf))))))
  exact aret (VLe.refl _) (Sub.refl _) ⟨ib, im, rfl, H⟩
theorem XOk.nil : XOk [] := ⟨List.nodup_nil, nofun, nofun, by decide⟩
def p1_24 : Pk := ⟨false, 1, 3, true, true, 2, [[99, 100]]⟩
def p2_24 : Pk := ⟨false, 2, 3, true, false, 0, [[97, 98]]⟩
def p3_24 : Pk := ⟨false, 0, 3, true, false, 0, [[97, 98]]⟩
def p4_24 : Pk := ⟨false, 0, 0, false, false, 0, []⟩
theorem e1_24 : putS [] p1_24 = 0 := by decide +kernel
theorem e2_24 : missS (putV [] p1_24) 3 = [(0, 2)] := by decide +kernel
theorem e3_24 : putS (putV [] p1_24) p2_24 = 0 := by decide +kernel
theorem e4_24 : putS (putV (putV [] p1_24) p2_24) p3_24 = 12 := by decide +kernel
theorem e5_24 : takeC (putV (putV [] p1_24) p2_24) 3 = 0 := by decide +kernel
theorem e6_24 : takeF (putV (putV [] p1_24) p2_24) 3 = (3, [[97, 98], [99, 100]]) := by decide +kernel
theorem e7_24 : takeC (takeS (putV (putV [] p1_24) p2_24) 3) 3 = 4 := by decide +kernel
theorem e8_24 (S : List PV) : putS S p4_24 = 1 := by unfold putS putK; rw [if_pos (by decide +kernel)]
theorem putV_no {S : List PV} {p : Pk} (h : putS S p ≠ 0) : putV S p = S := by unfold putV; rw [if_pos h]
set_option maxHeartbeats 4000000 in
theorem alive24 (σ : AHeap) : ACalls Try.prog i_bowlinelaw24_alive [] σ fun v σ' => v = boolv true ∧ σ' = σ := by
  refine k_bowlinelaw24_alive rfl ?_
  ((conv => whnf); (repeat ((first | with_reducible (first | refine zT rfl ?_ | refine zF rfl ?_ | refine zY rfl ?_) | refine zY (by decide) ?_ | refine zN (by decide) ?_ | with_reducible refine zQ ?_); (conv => whnf))))
  refine acall (buNew σ) ?_
  rintro _ τ ⟨ib, im, rfl, H⟩
  refine ⟨?_, H.ext⟩
  ((conv => whnf); (repeat ((first | with_reducible (first | refine zT rfl ?_ | refine zF rfl ?_ | refine zY rfl ?_) | refine zY (by decide) ?_ | refine zN (by decide) ?_ | with_reducible refine zQ ?_); (conv => whnf))))
  refine arowT fun t_ ht_ => ?_
  ((conv => whnf); (repeat ((first | with_reducible (first | refine zT rfl ?_ | refine zF rfl ?_ | refine zY rfl ?_) | refine zY (by decide) ?_ | refine zN (by decide) ?_ | with_reducible refine zQ ?_); (conv => whnf))))
  refine amark (by simp) (upd_same _ _ _) ?_
  ((conv => whnf); (repeat ((first | with_reducible (first | refine zT rfl ?_ | refine zF rfl ?_ | refine zY rfl ?_) | refine zY (by decide) ?_ | refine zN (by decide) ?_ | with_reducible refine zQ ?_); (conv => whnf))))
  rw [del_upd _ _ _ ht_]
  clear ht_
  ((conv => whnf); (repeat ((first | with_reducible (first | refine zT rfl ?_ | refine zF rfl ?_ | refine zY rfl ?_) | refine zY (by decide) ?_ | refine zN (by decide) ?_ | with_reducible refine zQ ?_); (conv => whnf))))
  refine acall (acall_weakX (pk_argsX [(.none, [99, 100])] .full) (xPut H XOk.nil (by decide) p1_24 (by decide) (by decide) (by decide))) ?_
  clear H
  rintro _ τ ⟨rfl, X, H, hX, ok, hl⟩
  rw [show pvs ([] : List PX) = [] from rfl] at hX ⊢
  rw [e1_24]
  ((conv => whnf); (repeat ((first | with_reducible (first | refine zT rfl ?_ | refine zF rfl ?_ | refine zY rfl ?_) | refine zY (by decide) ?_ | refine zN (by decide) ?_ | with_reducible refine zQ ?_); (conv => whnf))))
  refine acall (xMissing H ok 3) ?_
  rintro _ σ_ ⟨rfl, e_⟩
  obtain rfl := e_.symm
  refine ⟨?_, Ext.refl _⟩
  ((conv => whnf); (repeat ((first | with_reducible (first | refine zT rfl ?_ | refine zF rfl ?_ | refine zY rfl ?_) | refine zY (by decide) ?_ | refine zN (by decide) ?_ | with_reducible refine zQ ?_); (conv => whnf))))
  rw [hX, e2_24]
  ((conv => whnf); (repeat ((first | with_reducible (first | refine zT rfl ?_ | refine zF rfl ?_ | refine zY rfl ?_) | refine zY (by decide) ?_ | refine zN (by decide) ?_ | with_reducible refine zQ ?_); (conv => whnf))))
  refine arowT fun t_ ht_ => ?_
  ((conv => whnf); (repeat ((first | with_reducible (first | refine zT rfl ?_ | refine zF rfl ?_ | refine zY rfl ?_) | refine zY (by decide) ?_ | refine zN (by decide) ?_ | with_reducible refine zQ ?_); (conv => whnf))))
  refine amark (by simp) (upd_same _ _ _) ?_
  ((conv => whnf); (repeat ((first | with_reducible (first | refine zT rfl ?_ | refine zF rfl ?_ | refine zY rfl ?_) | refine zY (by decide) ?_ | refine zN (by decide) ?_ | with_reducible refine zQ ?_); (conv => whnf))))
  rw [del_upd _ _ _ ht_]
  clear ht_
  ((conv => whnf); (repeat ((first | with_reducible (first | refine zT rfl ?_ | refine zF rfl ?_ | refine zY rfl ?_) | refine zY (by decide) ?_ | refine zN (by decide) ?_ | with_reducible refine zQ ?_); (conv => whnf))))
  refine acall (acall_weakX (pk_argsX [(.none, [97, 98])] .full) (xPut H ok (by simp at hl; omega) p2_24 (by decide) (by decide) (by decide))) ?_
  clear H
  rintro _ τ ⟨rfl, X2, H, hX2, ok2, hl2⟩
  rw [hX] at hX2 ⊢
  rw [e3_24]
  ((conv => whnf); (repeat ((first | with_reducible (first | refine zT rfl ?_ | refine zF rfl ?_ | refine zY rfl ?_) | refine zY (by decide) ?_ | refine zN (by decide) ?_ | with_reducible refine zQ ?_); (conv => whnf))))
  refine arowT fun t_ ht_ => ?_
  ((conv => whnf); (repeat ((first | with_reducible (first | refine zT rfl ?_ | refine zF rfl ?_ | refine zY rfl ?_) | refine zY (by decide) ?_ | refine zN (by decide) ?_ | with_reducible refine zQ ?_); (conv => whnf))))
  refine amark (by simp) (upd_same _ _ _) ?_
  ((conv => whnf); (repeat ((first | with_reducible (first | refine zT rfl ?_ | refine zF rfl ?_ | refine zY rfl ?_) | refine zY (by decide) ?_ | refine zN (by decide) ?_ | with_reducible refine zQ ?_); (conv => whnf))))
  rw [del_upd _ _ _ ht_]
  clear ht_
  ((conv => whnf); (repeat ((first | with_reducible (first | refine zT rfl ?_ | refine zF rfl ?_ | refine zY rfl ?_) | refine zY (by decide) ?_ | refine zN (by decide) ?_ | with_reducible refine zQ ?_); (conv => whnf))))
  refine acall (acall_weakX (pk_argsX [(.none, [97, 98])] .full) (xPut H ok2 (by simp at hl; omega) p3_24 (by decide) (by decide) (by decide))) ?_
  clear H
  rintro _ τ ⟨rfl, X3, H, hX3, ok3, hl3⟩
  rw [hX2] at hX3 ⊢
  rw [putV_no (by rw [e4_24]; decide)] at hX3
  rw [e4_24]
  ((conv => whnf); (repeat ((first | with_reducible (first | refine zT rfl ?_ | refine zF rfl ?_ | refine zY rfl ?_) | refine zY (by decide) ?_ | refine zN (by decide) ?_ | with_reducible refine zQ ?_); (conv => whnf))))
  refine acall (xTake H ok3 3) ?_
  clear H
  rintro _ τ ⟨rfl, X4, H, hX4, ok4, hl4⟩
  rw [hX3] at hX4 ⊢
  rw [e5_24, e6_24]
  ((conv => whnf); (repeat ((first | with_reducible (first | refine zT rfl ?_ | refine zF rfl ?_ | refine zY rfl ?_) | refine zY (by decide) ?_ | refine zN (by decide) ?_ | with_reducible refine zQ ?_); (conv => whnf))))
  refine acall (xTake H ok4 3) ?_
  clear H
  rintro _ τ ⟨rfl, X5, H, hX5, ok5, hl5⟩
  rw [hX4, e7_24]
  ((conv => whnf); (repeat ((first | with_reducible (first | refine zT rfl ?_ | refine zF rfl ?_ | refine zY rfl ?_) | refine zY (by decide) ?_ | refine zN (by decide) ?_ | with_reducible refine zQ ?_); (conv => whnf))))
  (repeat ((first | refine zI (by omega) ?_ | refine zE (by omega) (by omega) ?_ | refine zD (by omega) (by omega) ?_ | refine zY (by omega) ?_ | refine zN (by omega) ?_ | refine amin ?_ | refine amax ?_ | refine zU (by omega) ?_ | refine z8 (by omega) ?_ | refine zX (by omega) (by omega) ?_ | refine zR rfl ?_ | refine acellA ?_ | refine zB H b1 rfl ?_ | refine zC H b1 ?_ | refine zB H b2 rfl ?_ | refine zC H b2 ?_ | refine zB H b3 rfl ?_ | refine zC H b3 ?_ | refine zB H b4 rfl ?_ | refine zC H b4 ?_ | (apply zL H; (· repeat first | exact .h | apply AtK.t); (· rfl)) | (apply zA H; (· repeat first | exact .h | apply AtK.t)) | (apply zS H; (· repeat first | exact .h | apply AtK.t); (· rfl); (conv => whnf); clear H; intro τ H) | rw [List.length_map]); ((conv => whnf); (repeat ((first | with_reducible (first | refine zT rfl ?_ | refine zF rfl ?_ | refine zY rfl ?_) | refine zY (by decide) ?_ | refine zN (by decide) ?_ | with_reducible refine zQ ?_); (conv => whnf))))))
  refine aget (x := spV (0, 2)) (by omega) rfl ?_
  ((conv => whnf); (repeat ((first | with_reducible (first | refine zT rfl ?_ | refine zF rfl ?_ | refine zY rfl ?_) | refine zY (by decide) ?_ | refine zN (by decide) ?_ | with_reducible refine zQ ?_); (conv => whnf))))
  (repeat ((first | refine zI (by omega) ?_ | refine zE (by omega) (by omega) ?_ | refine zD (by omega) (by omega) ?_ | refine zY (by omega) ?_ | refine zN (by omega) ?_ | refine amin ?_ | refine amax ?_ | refine zU (by omega) ?_ | refine z8 (by omega) ?_ | refine zX (by omega) (by omega) ?_ | refine zR rfl ?_ | refine acellA ?_ | refine zB H b1 rfl ?_ | refine zC H b1 ?_ | refine zB H b2 rfl ?_ | refine zC H b2 ?_ | refine zB H b3 rfl ?_ | refine zC H b3 ?_ | refine zB H b4 rfl ?_ | refine zC H b4 ?_ | (apply zL H; (· repeat first | exact .h | apply AtK.t); (· rfl)) | (apply zA H; (· repeat first | exact .h | apply AtK.t)) | (apply zS H; (· repeat first | exact .h | apply AtK.t); (· rfl); (conv => whnf); clear H; intro τ H) | rw [List.length_map]); ((conv => whnf); (repeat ((first | with_reducible (first | refine zT rfl ?_ | refine zF rfl ?_ | refine zY rfl ?_) | refine zY (by decide) ?_ | refine zN (by decide) ?_ | with_reducible refine zQ ?_); (conv => whnf))))))
  refine aget (x := sl .none [97, 98]) (by omega) rfl ?_
  ((conv => whnf); (repeat ((first | with_reducible (first | refine zT rfl ?_ | refine zF rfl ?_ | refine zY rfl ?_) | refine zY (by decide) ?_ | refine zN (by decide) ?_ | with_reducible refine zQ ?_); (conv => whnf))))
  (repeat ((first | refine zI (by omega) ?_ | refine zE (by omega) (by omega) ?_ | refine zD (by omega) (by omega) ?_ | refine zY (by omega) ?_ | refine zN (by omega) ?_ | refine amin ?_ | refine amax ?_ | refine zU (by omega) ?_ | refine z8 (by omega) ?_ | refine zX (by omega) (by omega) ?_ | refine zR rfl ?_ | refine acellA ?_ | refine zB H b1 rfl ?_ | refine zC H b1 ?_ | refine zB H b2 rfl ?_ | refine zC H b2 ?_ | refine zB H b3 rfl ?_ | refine zC H b3 ?_ | refine zB H b4 rfl ?_ | refine zC H b4 ?_ | (apply zL H; (· repeat first | exact .h | apply AtK.t); (· rfl)) | (apply zA H; (· repeat first | exact .h | apply AtK.t)) | (apply zS H; (· repeat first | exact .h | apply AtK.t); (· rfl); (conv => whnf); clear H; intro τ H) | rw [List.length_map]); ((conv => whnf); (repeat ((first | with_reducible (first | refine zT rfl ?_ | refine zF rfl ?_ | refine zY rfl ?_) | refine zY (by decide) ?_ | refine zN (by decide) ?_ | with_reducible refine zQ ?_); (conv => whnf))))))
  refine astr (bs := [97, 98]) rfl ?_
  ((conv => whnf); (repeat ((first | with_reducible (first | refine zT rfl ?_ | refine zF rfl ?_ | refine zY rfl ?_) | refine zY (by decide) ?_ | refine zN (by decide) ?_ | with_reducible refine zQ ?_); (conv => whnf))))
  (repeat ((first | refine zI (by omega) ?_ | refine zE (by omega) (by omega) ?_ | refine zD (by omega) (by omega) ?_ | refine zY (by omega) ?_ | refine zN (by omega) ?_ | refine amin ?_ | refine amax ?_ | refine zU (by omega) ?_ | refine z8 (by omega) ?_ | refine zX (by omega) (by omega) ?_ | refine zR rfl ?_ | refine acellA ?_ | refine zB H b1 rfl ?_ | refine zC H b1 ?_ | refine zB H b2 rfl ?_ | refine zC H b2 ?_ | refine zB H b3 rfl ?_ | refine zC H b3 ?_ | refine zB H b4 rfl ?_ | refine zC H b4 ?_ | (apply zL H; (· repeat first | exact .h | apply AtK.t); (· rfl)) | (apply zA H; (· repeat first | exact .h | apply AtK.t)) | (apply zS H; (· repeat first | exact .h | apply AtK.t); (· rfl); (conv => whnf); clear H; intro τ H) | rw [List.length_map]); ((conv => whnf); (repeat ((first | with_reducible (first | refine zT rfl ?_ | refine zF rfl ?_ | refine zY rfl ?_) | refine zY (by decide) ?_ | refine zN (by decide) ?_ | with_reducible refine zQ ?_); (conv => whnf))))))
  refine aget (x := sl .none [99, 100]) (by omega) rfl ?_
  ((conv => whnf); (repeat ((first | with_reducible (first | refine zT rfl ?_ | refine zF rfl ?_ | refine zY rfl ?_) | refine zY (by decide) ?_ | refine zN (by decide) ?_ | with_reducible refine zQ ?_); (conv => whnf))))
  (repeat ((first | refine zI (by omega) ?_ | refine zE (by omega) (by omega) ?_ | refine zD (by omega) (by omega) ?_ | refine zY (by omega) ?_ | refine zN (by omega) ?_ | refine amin ?_ | refine amax ?_ | refine zU (by omega) ?_ | refine z8 (by omega) ?_ | refine zX (by omega) (by omega) ?_ | refine zR rfl ?_ | refine acellA ?_ | refine zB H b1 rfl ?_ | refine zC H b1 ?_ | refine zB H b2 rfl ?_ | refine zC H b2 ?_ | refine zB H b3 rfl ?_ | refine zC H b3 ?_ | refine zB H b4 rfl ?_ | refine zC H b4 ?_ | (apply zL H; (· repeat first | exact .h | apply AtK.t); (· rfl)) | (apply zA H; (· repeat first | exact .h | apply AtK.t)) | (apply zS H; (· repeat first | exact .h | apply AtK.t); (· rfl); (conv => whnf); clear H; intro τ H) | rw [List.length_map]); ((conv => whnf); (repeat ((first | with_reducible (first | refine zT rfl ?_ | refine zF rfl ?_ | refine zY rfl ?_) | refine zY (by decide) ?_ | refine zN (by decide) ?_ | with_reducible refine zQ ?_); (conv => whnf))))))
  refine astr (bs := [99, 100]) rfl ?_
  ((conv => whnf); (repeat ((first | with_reducible (first | refine zT rfl ?_ | refine zF rfl ?_ | refine zY rfl ?_) | refine zY (by decide) ?_ | refine zN (by decide) ?_ | with_reducible refine zQ ?_); (conv => whnf))))
  (repeat ((first | refine zI (by omega) ?_ | refine zE (by omega) (by omega) ?_ | refine zD (by omega) (by omega) ?_ | refine zY (by omega) ?_ | refine zN (by omega) ?_ | refine amin ?_ | refine amax ?_ | refine zU (by omega) ?_ | refine z8 (by omega) ?_ | refine zX (by omega) (by omega) ?_ | refine zR rfl ?_ | refine acellA ?_ | refine zB H b1 rfl ?_ | refine zC H b1 ?_ | refine zB H b2 rfl ?_ | refine zC H b2 ?_ | refine zB H b3 rfl ?_ | refine zC H b3 ?_ | refine zB H b4 rfl ?_ | refine zC H b4 ?_ | (apply zL H; (· repeat first | exact .h | apply AtK.t); (· rfl)) | (apply zA H; (· repeat first | exact .h | apply AtK.t)) | (apply zS H; (· repeat first | exact .h | apply AtK.t); (· rfl); (conv => whnf); clear H; intro τ H) | rw [List.length_map]); ((conv => whnf); (repeat ((first | with_reducible (first | refine zT rfl ?_ | refine zF rfl ?_ | refine zY rfl ?_) | refine zY (by decide) ?_ | refine zN (by decide) ?_ | with_reducible refine zQ ?_); (conv => whnf))))))
  refine acall (acall_weakX (pk_argsX [] .full) (xPut H ok5 (by simp at hl; omega) p4_24 (by decide) (by decide) (by decide))) ?_
  clear H
  rintro _ τ ⟨rfl, X6, H, hX6, ok6, hl6⟩
  rw [e8_24]
  ((conv => whnf); (repeat ((first | with_reducible (first | refine zT rfl ?_ | refine zF rfl ?_ | refine zY rfl ?_) | refine zY (by decide) ?_ | refine zN (by decide) ?_ | with_reducible refine zQ ?_); (conv => whnf))))
  (repeat ((first | refine zI (by omega) ?_ | refine zE (by omega) (by omega) ?_ | refine zD (by omega) (by omega) ?_ | refine zY (by omega) ?_ | refine zN (by omega) ?_ | refine amin ?_ | refine amax ?_ | refine zU (by omega) ?_ | refine z8 (by omega) ?_ | refine zX (by omega) (by omega) ?_ | refine zR rfl ?_ | refine acellA ?_ | refine zB H b1 rfl ?_ | refine zC H b1 ?_ | refine zB H b2 rfl ?_ | refine zC H b2 ?_ | refine zB H b3 rfl ?_ | refine zC H b3 ?_ | refine zB H b4 rfl ?_ | refine zC H b4 ?_ | (apply zL H; (· repeat first | exact .h | apply AtK.t); (· rfl)) | (apply zA H; (· repeat first | exact .h | apply AtK.t)) | (apply zS H; (· repeat first | exact .h | apply AtK.t); (· rfl); (conv => whnf); clear H; intro τ H) | rw [List.length_map]); ((conv => whnf); (repeat ((first | with_reducible (first | refine zT rfl ?_ | refine zF rfl ?_ | refine zY rfl ?_) | refine zY (by decide) ?_ | refine zN (by decide) ?_ | with_reducible refine zQ ?_); (conv => whnf))))))
  exact aret (VLe.refl _) H.sub ⟨rfl, rfl⟩
end Go.Proofs.Ytgobbmdbkmjlnaa
/-
  Statement of what came in parts: what is refused changes nothing; what came once is there twice.
-/
namespace Go.Proofs.Ytgobbmdbkmjlnaa
set_option linter.unusedVariables false
set_option linter.unusedSimpArgs false
set_option maxRecDepth 20000
open Go Go.Am

theorem countP_lt {α : Type} {f g : α → Bool} : ∀ {l : List α}, (∀ x ∈ l, f x = true → g x = true) → (∃ x ∈ l, f x = false ∧ g x = true) → l.countP f < l.countP g
  | [], _, ⟨x, hx, _⟩ => by cases hx
  | a :: l, h, ⟨x, hx, h1, h2⟩ => by
    have hm : l.countP f ≤ l.countP g := List.countP_mono_left fun y hy => h y (List.mem_cons_of_mem _ hy)
    rw [List.countP_cons, List.countP_cons]
    rcases List.mem_cons.1 hx with rfl | hx
    · rw [h1, h2]; simp; omega
    · have := countP_lt (l := l) (fun y hy => h y (List.mem_cons_of_mem _ hy)) ⟨x, hx, h1, h2⟩
      have ha := h a (List.mem_cons_self ..)
      cases hfa : f a
      · simp; omega
      · rw [ha hfa]; simp; omega
def hasB (l : List Sp) (i : Nat) : Bool := l.any fun y => decide (y.1 ≤ (i : Int) ∧ (i : Int) < y.2)
theorem hasB_iff {l : List Sp} {i : Nat} : hasB l i = true ↔ hasP l (i : Int) := by
  unfold hasB hasP
  rw [List.any_eq_true]
  exact ⟨fun ⟨y, hy, h⟩ => ⟨y, hy, of_decide_eq_true h⟩, fun ⟨y, hy, h⟩ => ⟨y, hy, decide_eq_true h⟩⟩
theorem cnt_has {l : List Sp} (h : SOk l) : cntL l = ((List.range 65536).countP (hasB l) : Int) :=
  cnt_runs (n := 65536) (Nat.le_refl _) h.n fun p => by
    constructor
    · rintro ⟨y, hy, h1, h2⟩
      have := h.mem y hy
      refine ⟨by omega, by omega, ?_⟩
      rw [hasB_iff, Int.toNat_of_nonneg (by omega)]
      exact ⟨y, hy, h1, h2⟩
    · rintro ⟨h1, h2, h3⟩
      rw [hasB_iff, Int.toNat_of_nonneg h1] at h3
      exact h3
theorem cnt_add {l : List Sp} {y : Sp} (h : SOk l) (ha : addC y l = 0) (hh : hasS y l = false) : cntL l < cntL (addS y l) := by
  obtain ⟨hr, _, _⟩ := addC_zero ha
  have hy := spRight_iff.1 hr
  have hn : ¬ (∀ p, y.1 ≤ p → p < y.2 → hasP l p) := fun k => by
    have := (hasS_iff h).2 ⟨hr, k⟩
    rw [hh] at this; cases this
  rw [cnt_has h, cnt_has (h.add y)]
  obtain ⟨p, hp⟩ := Classical.not_forall.1 hn
  have hp1 : y.1 ≤ p := Classical.byContradiction fun k => hp fun a => absurd a k
  have hp2 : p < y.2 := Classical.byContradiction fun k => hp fun _ a => absurd a k
  have hp3 : ¬ hasP l p := fun k => hp fun _ _ => k
  refine Int.ofNat_lt.2 (countP_lt (fun i _ hi => ?_) ⟨p.toNat, List.mem_range.2 (by omega), ?_, ?_⟩)
  · rw [hasB_iff] at hi ⊢
    exact (add_has h ha _).2 (.inl hi)
  · cases hb : hasB l p.toNat
    · rfl
    · rw [hasB_iff, Int.toNat_of_nonneg (by omega)] at hb
      exact absurd hb hp3
  · rw [hasB_iff, Int.toNat_of_nonneg (by omega)]
    exact (add_has h ha _).2 (.inr ⟨hp1, hp2⟩)
theorem spanP_right {p : Pk} (h : rightB p = true) : spRight (spanP p) = true := by
  obtain ⟨g1, g2, g3, g4, g5, g6, g7, g8, g9⟩ := right_ok h
  have gp := right_pos h
  exact spRight_iff.2 ⟨g6, by unfold spanP; dsimp only; omega, by unfold spanP; dsimp only; omega⟩
theorem topL_le {l : List Sp} (h : SOk l) {b : Int} (hb : 0 ≤ b) : topL l ≤ b ↔ ∀ p, hasP l p → p < b := by
  unfold topL
  rcases snoc_cases l with rfl | ⟨r, z, rfl⟩
  · exact ⟨fun _ p hp => (has_nil.1 hp).elim, fun _ => hb⟩
  · rw [List.getLast?_concat]
    dsimp only
    obtain ⟨k1, k2, k3, k4⟩ := h.n.last
    constructor
    · rintro hz p ⟨y, hy, h1, h2⟩
      rcases List.mem_append.1 hy with hy | hy
      · have := k1 y hy; omega
      · rw [List.mem_singleton.1 hy] at h2; omega
    · intro hp
      have := hp (z.2 - 1) ⟨z, by simp, by omega, by omega⟩
      omega
theorem fits_zero {l : List Sp} {e : Int} {y : Sp} {ends : Bool} (h : fitsC l e y ends = 0) : (e = -1 ∨ (y.2 ≤ e ∧ (ends = true → y.2 = e))) ∧ (ends = true → topL l ≤ y.2) ∧ hasS y l = false := by
  unfold fitsC at h
  split at h
  · cases h
  · rename_i hc
    split at h
    · cases h
    · rename_i hh
      refine ⟨?_, fun he => ?_, by simpa using hh⟩
      · by_cases he : e = -1
        · exact .inl he
        · refine .inr ⟨?_, fun hn => ?_⟩
          · exact Int.not_lt.1 fun k => hc (.inl ⟨he, .inl k⟩)
          · exact Classical.byContradiction fun k => hc (.inl ⟨he, .inr ⟨hn, k⟩⟩)
      · exact Int.not_lt.1 fun k => hc (.inr ⟨he, k⟩)
theorem putK_twice {p : Pk} {l : List Sp} {e : Int} (hs : SOk l) (h : putK p l e = 0) : putK p (addS (spanP p) l) (noteE p (endsB p) e) = 12 := by
  obtain ⟨hr, hc, ha⟩ := putK_zero h
  obtain ⟨f1, f2, f3⟩ := fits_zero hc
  have hy := spanP_right hr
  have hy' := spRight_iff.1 hy
  have hhas : hasS (spanP p) (addS (spanP p) l) = true := (hasS_iff (hs.add _)).2 ⟨hy, fun q h1 h2 => (add_has hs ha q).2 (.inr ⟨h1, h2⟩)⟩
  have hfit : fitsC (addS (spanP p) l) (noteE p (endsB p) e) (spanP p) (endsB p) = 12 := by
    unfold fitsC
    rw [if_neg, if_pos hhas]
    have hsp : (spanP p).2 = p.off + (total p.fs : Int) := rfl
    rintro (⟨h1, h2⟩ | ⟨h1, h2⟩)
    · unfold noteE at h1 h2
      rcases (show endsB p = false ∨ endsB p = true by cases endsB p <;> simp) with he | he
      · rw [he] at h1 h2 f1
        rw [if_neg (by simp)] at h1 h2
        rcases f1 with f1 | f1
        · exact h1 f1
        · rcases h2 with h2 | h2
          · omega
          · cases h2.1
      · rw [he] at h2
        rw [if_pos rfl] at h2
        rcases h2 with h2 | h2
        · omega
        · exact h2.2 hsp
    · have h3 := f2 h1
      have h4 := (topL_le hs (by omega)).1 h3
      have h5 : topL (addS (spanP p) l) ≤ (spanP p).2 := (topL_le (hs.add _) (by omega)).2 fun q hq => by
        rcases (add_has hs ha q).1 hq with hq | hq
        · exact h4 q hq
        · exact hq.2
      omega
  unfold putK
  rw [if_neg (by rw [hr]; simp), if_pos (by rw [hfit]; decide), hfit]
structure SInv (S : List PV) : Prop where
  nd : (S.map (·.sn)).Nodup
  ok : ∀ x ∈ S, x.Ok
theorem XOk.inv {X : List PX} (ok : XOk X) : SInv (pvs X) := ⟨by have := ok.nd; rw [show (pvs X).map (·.sn) = X.map (·.pv.sn) by rw [List.map_map]; rfl]; exact this, fun x hx => by obtain ⟨y, hy, rfl⟩ := List.mem_map.1 hx; exact ok.ok y hy⟩
theorem find_uniq : ∀ {S : List PV} {y : PV}, (S.map (·.sn)).Nodup → y ∈ S → findS S y.sn = some y
  | a :: S, y, hn, hy => by
    rw [List.map_cons, List.nodup_cons] at hn
    unfold findS
    rw [List.find?_cons]
    rcases List.mem_cons.1 hy with rfl | hy
    · simp
    · have : a.sn ≠ y.sn := fun e => hn.1 (by rw [e]; exact List.mem_map_of_mem hy)
      have hb : (a.sn == y.sn) = false := by simp [this]
      rw [hb]
      exact find_uniq (S := S) hn.2 hy
theorem findS_some {S : List PV} {sn : Int} {x : PV} (h : findS S sn = some x) : x ∈ S ∧ x.sn = sn :=
  ⟨List.mem_of_find?_eq_some h, by have := List.find?_some h; simpa using this⟩
theorem findS_none {S : List PV} {sn : Int} (h : findS S sn = none) : ∀ x ∈ S, x.sn ≠ sn := fun x hx e => by
  have := List.find?_eq_none.1 h x hx
  simp [e] at this
theorem sum_le {S : List PV} {f g : PV → Int} : (∀ x ∈ S, f x ≤ g x) → (S.map f).sum ≤ (S.map g).sum := by
  intro h
  induction S with
  | nil => exact Int.le_refl _
  | cons a S ih =>
    rw [List.map_cons, List.map_cons, List.sum_cons, List.sum_cons]
    have h1 := h a (List.mem_cons_self ..)
    have h2 := ih fun x hx => h x (List.mem_cons_of_mem _ hx)
    omega
theorem sum_lt {S : List PV} {f g : PV → Int} : (∀ x ∈ S, f x ≤ g x) → (∃ x ∈ S, f x < g x) → (S.map f).sum < (S.map g).sum := by
  intro h hx
  induction S with
  | nil => obtain ⟨x, hx, _⟩ := hx; cases hx
  | cons a S ih =>
    rw [List.map_cons, List.map_cons, List.sum_cons, List.sum_cons]
    have h1 := h a (List.mem_cons_self ..)
    obtain ⟨x, hx, hl⟩ := hx
    rcases List.mem_cons.1 hx with rfl | hx
    · have := sum_le (S := S) (f := f) (g := g) fun x hx => h x (List.mem_cons_of_mem _ hx)
      omega
    · have := ih (fun x hx => h x (List.mem_cons_of_mem _ hx)) ⟨x, hx, hl⟩
      omega
theorem putV_find {S : List PV} {p : Pk} (h : putS S p = 0) : lS (putV S p) p.sn = addS (spanP p) (lS S p.sn) ∧ eS (putV S p) p.sn = noteE p (endsB p) (eS S p.sn) := by
  have key : ∃ x, findS (putV S p) p.sn = some x ∧ x.l = addS (spanP p) (lS S p.sn) ∧ x.e = noteE p (endsB p) (eS S p.sn) := by
    unfold putV
    rw [if_neg (by simpa using h)]
    cases hf : findS S p.sn with
    | some x =>
      obtain ⟨hx, hsn⟩ := findS_some hf
      refine ⟨updV x p, ?_, by unfold lS; rw [hf]; rfl, by unfold eS; rw [hf]; rfl⟩
      dsimp only
      unfold findS at hf ⊢
      rw [List.find?_map]
      have : ((fun x : PV => x.sn == p.sn) ∘ fun x => if x.sn = p.sn then updV x p else x) = fun x => x.sn == p.sn := by
        funext z
        show ((if z.sn = p.sn then updV z p else z).sn == p.sn) = _
        split <;> rfl
      rw [this, hf, Option.map_some, if_pos hsn]
    | none =>
      refine ⟨updV (freshV p.sn) p, ?_, by unfold lS; rw [hf]; rfl, by unfold eS; rw [hf]; rfl⟩
      dsimp only
      unfold findS at hf ⊢
      rw [List.find?_append, hf]
      simp [updV, freshV]
  obtain ⟨x, h1, h2, h3⟩ := key
  exact ⟨by conv => lhs; unfold lS; rw [h1]
            exact h2, by conv => lhs; unfold eS; rw [h1]
                         exact h3⟩
theorem lS_ok {S : List PV} (hi : SInv S) (sn : Int) : SOk (lS S sn) := by
  unfold lS
  cases hf : findS S sn with
  | some x => exact (hi.ok x (findS_some hf).1).so
  | none => exact SOk.nil
theorem put_twice {S : List PV} (hi : SInv S) {p : Pk} (h : putS S p = 0) : putS (putV S p) p = 12 := by
  obtain ⟨h1, h2⟩ := putV_find h
  conv => lhs; unfold putS
  rw [h1, h2]
  exact putK_twice (lS_ok hi _) h
theorem put_more {S : List PV} (hi : SInv S) {p : Pk} (h : putS S p = 0) : bytesS S < bytesS (putV S p) := by
  have h0 := h
  unfold putS lS eS at h0
  unfold putV
  rw [if_neg (by simpa using h)]
  cases hf : findS S p.sn with
  | some x =>
    rw [hf] at h0
    obtain ⟨hx, hsn⟩ := findS_some hf
    obtain ⟨hr, hc, ha⟩ := putK_zero h0
    obtain ⟨_, _, hh⟩ := fits_zero hc
    have hlt := cnt_add (hi.ok x hx).so ha hh
    unfold bytesS
    dsimp only
    rw [List.map_map]
    have q : ∀ y ∈ S, y.sn = p.sn → y = x := fun y hy e => by
      have := find_uniq hi.nd hy
      rw [e, hf] at this
      exact (Option.some.inj this).symm
    refine sum_lt (fun y hy => ?_) ⟨x, hx, ?_⟩
    · show cntL y.l ≤ cntL (if y.sn = p.sn then updV y p else y).l
      by_cases e : y.sn = p.sn
      · rw [if_pos e]
        obtain rfl := q y hy e
        exact Int.le_of_lt hlt
      · rw [if_neg e]; exact Int.le_refl _
    · show cntL x.l < cntL (if x.sn = p.sn then updV x p else x).l
      rw [if_pos hsn]; exact hlt
  | none =>
    rw [hf] at h0
    obtain ⟨hr, hc, ha⟩ := putK_zero h0
    obtain ⟨_, _, hh⟩ := fits_zero hc
    have hlt := cnt_add SOk.nil ha hh
    unfold bytesS
    rw [List.map_append, List.sum_append]
    have e1 : cntL ([] : List Sp) = 0 := rfl
    show _ < _ + (cntL (addS (spanP p) []) + 0)
    omega
end Go.Proofs.Ytgobbmdbkmjlnaa
/-
  Statement of what came in parts: what is refused changes nothing; what came once is there twice: the walk.
-/
namespace Go.Proofs.Ytgobbmdbkmjlnaa
set_option linter.unusedVariables false
set_option linter.unusedSimpArgs false
set_option maxRecDepth 20000
open Go Go.Am

abbrev OpT := Int × Int × (Bool × Int × Int × Bool × Bool × Int × List (List UInt8))
abbrev opP (o : OpT) : Pk := ⟨o.2.2.1, o.2.2.2.1, o.2.2.2.2.1, o.2.2.2.2.2.1, o.2.2.2.2.2.2.1, o.2.2.2.2.2.2.2.1, o.2.2.2.2.2.2.2.2⟩
abbrev opX (o : OpT) : AVal := .agg [i64v o.1, i64v o.2.1, boolv o.2.2.1, i64v o.2.2.2.1, i64v o.2.2.2.2.1, boolv o.2.2.2.2.2.1, boolv o.2.2.2.2.2.2.1, i64v o.2.2.2.2.2.2.2.1, lists .none o.2.2.2.2.2.2.2.2]
abbrev opC (k sn : Int) (p : Pk) : List AVal := [i64v k, i64v sn, boolv p.poll, i64v p.fi, i64v p.sn, boolv p.part, boolv p.last, i64v p.off, lists .none p.fs]
theorem get_opX {l : List OpT} {i : Nat} (h : i < l.length) : (l.map opX)[((i : Nat) : Int).toNat]? = some (opX l[i]) := by
  rw [Int.toNat_natCast, List.getElem?_map, List.getElem?_eq_getElem h]; rfl
theorem XL.push {σb τ : AHeap} {ib im : Nat} {X : List PX} {G : List HE} {o : HE} (H : Hp σb (o :: XL ib im X G) τ) : Hp σb (XL ib im X (o :: G)) τ :=
  Hp.mid2 (A := [.o ib (.cells (buC im)), .o im (.map (esX X))]) (B := [o]) (C := flatX X) (D := G) (Hp.mid (A := [o]) (B := [.o ib (.cells (buC im)), .o im (.map (esX X))]) (C := flatX X ++ G) H)
theorem XL.pop {σb τ : AHeap} {ib im : Nat} {X : List PX} {G : List HE} {o : HE} (H : Hp σb (XL ib im X (o :: G)) τ) : Hp σb (o :: XL ib im X G) τ :=
  Hp.mid (A := [.o ib (.cells (buC im)), .o im (.map (esX X))]) (B := [o]) (C := flatX X ++ G) (Hp.mid2 (A := [.o ib (.cells (buC im)), .o im (.map (esX X))]) (B := flatX X) (C := [o]) (D := G) H)
theorem small_sumX {l : List (List UInt8)} (h : smallG l) : total l ≤ 168000 := by
  have : ∀ (m : List (List UInt8)), (∀ p ∈ m, p.length ≤ 4200) → total m ≤ 4200 * m.length := by
    intro m
    induction m with
    | nil => intro _; exact Nat.le_refl _
    | cons a m ih =>
      intro hm
      have h1 := ih fun p hp => hm p (List.mem_cons_of_mem _ hp)
      have h2 := hm a (List.mem_cons_self ..)
      rw [total_cons, List.length_cons]; omega
  have := this l h.2
  have := h.1
  omega
set_option maxHeartbeats 8000000 in
theorem RxbufTwice (ops : List OpT) (σ : AHeap) (hg : ∀ o ∈ ops, (-9223372036854775808 ≤ o.2.2.2.2.1 ∧ o.2.2.2.2.1 ≤ 9223372036854775807) ∧ o.2.2.2.2.2.2.2.2.length ≤ 140737488355328) (hn : ops.length ≤ 140737488355328) :
    ACalls Try.prog i_bowlinelaw24_RxbufTwice [.slice 9 (ops.map opX) .none] σ fun v σ' => v = boolv true ∧ Hp σ [] σ' := by
  refine k_bowlinelaw24_RxbufTwice rfl ?_
  ((conv => whnf); (repeat ((first | with_reducible (first | refine zT rfl ?_ | refine zF rfl ?_ | refine zY rfl ?_) | refine zY (by decide) ?_ | refine zN (by decide) ?_ | with_reducible refine zQ ?_); (conv => whnf))))
  refine acall (buNew σ) ?_
  rintro _ τ ⟨ib, im, rfl, H⟩
  refine ⟨?_, H.ext⟩
  ((conv => whnf); (repeat ((first | with_reducible (first | refine zT rfl ?_ | refine zF rfl ?_ | refine zY rfl ?_) | refine zY (by decide) ?_ | refine zN (by decide) ?_ | with_reducible refine zQ ?_); (conv => whnf))))
  refine aloop (α := Nat × List PX × AHeap) (fun y => [(s4, i64v y.1)]) (fun y => y.2.2) (fun y => y.1 ≤ 60 ∧ Hp σ (XL ib im y.2.1 []) y.2.2 ∧ XOk y.2.1 ∧ y.2.1.length ≤ y.1) (fun y => 60 - y.1)
    (0, [], τ) ⟨by omega, H, XOk.nil, Nat.le_refl _⟩ (Sub.refl _) ?_ ?_
  · ((conv => whnf); (repeat ((first | with_reducible (first | refine zT rfl ?_ | refine zF rfl ?_ | refine zY rfl ?_) | refine zY (by decide) ?_ | refine zN (by decide) ?_ | with_reducible refine zQ ?_); (conv => whnf))))
    (repeat' first | with_reducible exact EnvLe.refl _ | (refine EnvLe.node ?_ (by first | exact Or.inl rfl | exact Or.inr (Or.inl rfl) | exact Or.inr (Or.inr ⟨nofun, VLe.slice _ _ _⟩)) ?_))
  clear H
  rintro ⟨i, X, τ⟩ ⟨hi, H, ok, hX⟩
  dsimp only at hi H ok hX ⊢
  ((conv => whnf); (repeat ((first | with_reducible (first | refine zT rfl ?_ | refine zF rfl ?_ | refine zY rfl ?_) | refine zY (by decide) ?_ | refine zN (by decide) ?_ | with_reducible refine zQ ?_); (conv => whnf))))
  (repeat ((first | refine zI (by omega) ?_ | refine zE (by omega) (by omega) ?_ | refine zD (by omega) (by omega) ?_ | refine zY (by omega) ?_ | refine zN (by omega) ?_ | refine amin ?_ | refine amax ?_ | refine zU (by omega) ?_ | refine z8 (by omega) ?_ | refine zX (by omega) (by omega) ?_ | refine zR rfl ?_ | refine acellA ?_ | refine zB H b1 rfl ?_ | refine zC H b1 ?_ | refine zB H b2 rfl ?_ | refine zC H b2 ?_ | refine zB H b3 rfl ?_ | refine zC H b3 ?_ | refine zB H b4 rfl ?_ | refine zC H b4 ?_ | (apply zL H; (· repeat first | exact .h | apply AtK.t); (· rfl)) | (apply zA H; (· repeat first | exact .h | apply AtK.t)) | (apply zS H; (· repeat first | exact .h | apply AtK.t); (· rfl); (conv => whnf); clear H; intro τ H) | rw [List.length_map]); ((conv => whnf); (repeat ((first | with_reducible (first | refine zT rfl ?_ | refine zF rfl ?_ | refine zY rfl ?_) | refine zY (by decide) ?_ | refine zN (by decide) ?_ | with_reducible refine zQ ?_); (conv => whnf))))))
  by_cases h : i < ops.length
  case neg =>
    (repeat ((first | refine zI (by omega) ?_ | refine zE (by omega) (by omega) ?_ | refine zD (by omega) (by omega) ?_ | refine zY (by omega) ?_ | refine zN (by omega) ?_ | refine amin ?_ | refine amax ?_ | refine zU (by omega) ?_ | refine z8 (by omega) ?_ | refine zX (by omega) (by omega) ?_ | refine zR rfl ?_ | refine acellA ?_ | refine zB H b1 rfl ?_ | refine zC H b1 ?_ | refine zB H b2 rfl ?_ | refine zC H b2 ?_ | refine zB H b3 rfl ?_ | refine zC H b3 ?_ | refine zB H b4 rfl ?_ | refine zC H b4 ?_ | (apply zL H; (· repeat first | exact .h | apply AtK.t); (· rfl)) | (apply zA H; (· repeat first | exact .h | apply AtK.t)) | (apply zS H; (· repeat first | exact .h | apply AtK.t); (· rfl); (conv => whnf); clear H; intro τ H) | rw [List.length_map]); ((conv => whnf); (repeat ((first | with_reducible (first | refine zT rfl ?_ | refine zF rfl ?_ | refine zY rfl ?_) | refine zY (by decide) ?_ | refine zN (by decide) ?_ | with_reducible refine zQ ?_); (conv => whnf))))))
    refine acall (alive24 τ) ?_
    rintro _ σ_ ⟨rfl, e_⟩
    obtain rfl := e_.symm
    refine ⟨?_, Ext.refl _⟩
    ((conv => whnf); (repeat ((first | with_reducible (first | refine zT rfl ?_ | refine zF rfl ?_ | refine zY rfl ?_) | refine zY (by decide) ?_ | refine zN (by decide) ?_ | with_reducible refine zQ ?_); (conv => whnf))))
    exact aret (VLe.refl _) (Sub.refl _) ⟨rfl, H.left (L := [])⟩
  (repeat ((first | refine zI (by omega) ?_ | refine zE (by omega) (by omega) ?_ | refine zD (by omega) (by omega) ?_ | refine zY (by omega) ?_ | refine zN (by omega) ?_ | refine amin ?_ | refine amax ?_ | refine zU (by omega) ?_ | refine z8 (by omega) ?_ | refine zX (by omega) (by omega) ?_ | refine zR rfl ?_ | refine acellA ?_ | refine zB H b1 rfl ?_ | refine zC H b1 ?_ | refine zB H b2 rfl ?_ | refine zC H b2 ?_ | refine zB H b3 rfl ?_ | refine zC H b3 ?_ | refine zB H b4 rfl ?_ | refine zC H b4 ?_ | (apply zL H; (· repeat first | exact .h | apply AtK.t); (· rfl)) | (apply zA H; (· repeat first | exact .h | apply AtK.t)) | (apply zS H; (· repeat first | exact .h | apply AtK.t); (· rfl); (conv => whnf); clear H; intro τ H) | rw [List.length_map]); ((conv => whnf); (repeat ((first | with_reducible (first | refine zT rfl ?_ | refine zF rfl ?_ | refine zY rfl ?_) | refine zY (by decide) ?_ | refine zN (by decide) ?_ | with_reducible refine zQ ?_); (conv => whnf))))))
  by_cases h60 : i < 60
  case neg =>
    (repeat ((first | refine zI (by omega) ?_ | refine zE (by omega) (by omega) ?_ | refine zD (by omega) (by omega) ?_ | refine zY (by omega) ?_ | refine zN (by omega) ?_ | refine amin ?_ | refine amax ?_ | refine zU (by omega) ?_ | refine z8 (by omega) ?_ | refine zX (by omega) (by omega) ?_ | refine zR rfl ?_ | refine acellA ?_ | refine zB H b1 rfl ?_ | refine zC H b1 ?_ | refine zB H b2 rfl ?_ | refine zC H b2 ?_ | refine zB H b3 rfl ?_ | refine zC H b3 ?_ | refine zB H b4 rfl ?_ | refine zC H b4 ?_ | (apply zL H; (· repeat first | exact .h | apply AtK.t); (· rfl)) | (apply zA H; (· repeat first | exact .h | apply AtK.t)) | (apply zS H; (· repeat first | exact .h | apply AtK.t); (· rfl); (conv => whnf); clear H; intro τ H) | rw [List.length_map]); ((conv => whnf); (repeat ((first | with_reducible (first | refine zT rfl ?_ | refine zF rfl ?_ | refine zY rfl ?_) | refine zY (by decide) ?_ | refine zN (by decide) ?_ | with_reducible refine zQ ?_); (conv => whnf))))))
    refine acall (alive24 τ) ?_
    rintro _ σ_ ⟨rfl, e_⟩
    obtain rfl := e_.symm
    refine ⟨?_, Ext.refl _⟩
    ((conv => whnf); (repeat ((first | with_reducible (first | refine zT rfl ?_ | refine zF rfl ?_ | refine zY rfl ?_) | refine zY (by decide) ?_ | refine zN (by decide) ?_ | with_reducible refine zQ ?_); (conv => whnf))))
    exact aret (VLe.refl _) (Sub.refl _) ⟨rfl, H.left (L := [])⟩
  have hgo := hg ops[i] (List.getElem_mem h)
  (repeat ((first | refine zI (by omega) ?_ | refine zE (by omega) (by omega) ?_ | refine zD (by omega) (by omega) ?_ | refine zY (by omega) ?_ | refine zN (by omega) ?_ | refine amin ?_ | refine amax ?_ | refine zU (by omega) ?_ | refine z8 (by omega) ?_ | refine zX (by omega) (by omega) ?_ | refine zR rfl ?_ | refine acellA ?_ | refine zB H b1 rfl ?_ | refine zC H b1 ?_ | refine zB H b2 rfl ?_ | refine zC H b2 ?_ | refine zB H b3 rfl ?_ | refine zC H b3 ?_ | refine zB H b4 rfl ?_ | refine zC H b4 ?_ | (apply zL H; (· repeat first | exact .h | apply AtK.t); (· rfl)) | (apply zA H; (· repeat first | exact .h | apply AtK.t)) | (apply zS H; (· repeat first | exact .h | apply AtK.t); (· rfl); (conv => whnf); clear H; intro τ H) | rw [List.length_map]); ((conv => whnf); (repeat ((first | with_reducible (first | refine zT rfl ?_ | refine zF rfl ?_ | refine zY rfl ?_) | refine zY (by decide) ?_ | refine zN (by decide) ?_ | with_reducible refine zQ ?_); (conv => whnf))))))
  refine aget (by omega) (get_opX h) ?_
  obtain ⟨o, ho⟩ : ∃ o, o = ops[i] := ⟨_, rfl⟩
  rw [← ho] at hgo ⊢
  clear ho
  obtain ⟨kd, osn, p1, p2, p3, p4, p5, p6, p7⟩ := o
  dsimp only at hgo
  obtain ⟨p, hp⟩ : ∃ p : Pk, p = ⟨p1, p2, p3, p4, p5, p6, p7⟩ := ⟨_, rfl⟩
  have q1 : p1 = p.poll := by rw [hp]
  have q2 : p2 = p.fi := by rw [hp]
  have q3 : p3 = p.sn := by rw [hp]
  have q4 : p4 = p.part := by rw [hp]
  have q5 : p5 = p.last := by rw [hp]
  have q6 : p6 = p.off := by rw [hp]
  have q7 : p7 = p.fs := by rw [hp]
  subst q1 q2 q3 q4 q5 q6 q7
  clear hp
  obtain ⟨hsn, hfl⟩ := hgo
  have hsn := inR_ofX hsn
  ((conv => whnf); (repeat ((first | with_reducible (first | refine zT rfl ?_ | refine zF rfl ?_ | refine zY rfl ?_) | refine zY (by decide) ?_ | refine zN (by decide) ?_ | with_reducible refine zQ ?_); (conv => whnf))))
  (repeat ((first | refine zI (by omega) ?_ | refine zE (by omega) (by omega) ?_ | refine zD (by omega) (by omega) ?_ | refine zY (by omega) ?_ | refine zN (by omega) ?_ | refine amin ?_ | refine amax ?_ | refine zU (by omega) ?_ | refine z8 (by omega) ?_ | refine zX (by omega) (by omega) ?_ | refine zR rfl ?_ | refine acellA ?_ | refine zB H b1 rfl ?_ | refine zC H b1 ?_ | refine zB H b2 rfl ?_ | refine zC H b2 ?_ | refine zB H b3 rfl ?_ | refine zC H b3 ?_ | refine zB H b4 rfl ?_ | refine zC H b4 ?_ | (apply zL H; (· repeat first | exact .h | apply AtK.t); (· rfl)) | (apply zA H; (· repeat first | exact .h | apply AtK.t)) | (apply zS H; (· repeat first | exact .h | apply AtK.t); (· rfl); (conv => whnf); clear H; intro τ H) | rw [List.length_map]); ((conv => whnf); (repeat ((first | with_reducible (first | refine zT rfl ?_ | refine zF rfl ?_ | refine zY rfl ?_) | refine zY (by decide) ?_ | refine zN (by decide) ?_ | with_reducible refine zQ ?_); (conv => whnf))))))
  refine hnew H rfl ?_
  clear H
  intro i5 τ H
  ((conv => whnf); (repeat ((first | with_reducible (first | refine zT rfl ?_ | refine zF rfl ?_ | refine zY rfl ?_) | refine zY (by decide) ?_ | refine zN (by decide) ?_ | with_reducible refine zQ ?_); (conv => whnf))))
  (repeat ((first | refine zI (by omega) ?_ | refine zE (by omega) (by omega) ?_ | refine zD (by omega) (by omega) ?_ | refine zY (by omega) ?_ | refine zN (by omega) ?_ | refine amin ?_ | refine amax ?_ | refine zU (by omega) ?_ | refine z8 (by omega) ?_ | refine zX (by omega) (by omega) ?_ | refine zR rfl ?_ | refine acellA ?_ | refine zB H b1 rfl ?_ | refine zC H b1 ?_ | refine zB H b2 rfl ?_ | refine zC H b2 ?_ | refine zB H b3 rfl ?_ | refine zC H b3 ?_ | refine zB H b4 rfl ?_ | refine zC H b4 ?_ | (apply zL H; (· repeat first | exact .h | apply AtK.t); (· rfl)) | (apply zA H; (· repeat first | exact .h | apply AtK.t)) | (apply zS H; (· repeat first | exact .h | apply AtK.t); (· rfl); (conv => whnf); clear H; intro τ H) | rw [List.length_map]); ((conv => whnf); (repeat ((first | with_reducible (first | refine zT rfl ?_ | refine zF rfl ?_ | refine zY rfl ?_) | refine zY (by decide) ?_ | refine zN (by decide) ?_ | with_reducible refine zQ ?_); (conv => whnf))))))
  replace H : Hp σ (.o i5 (.cells (opC kd osn p)) :: XL ib im X []) τ := H
  refine acall (gGreat p.fs .none τ (by omega)) ?_
  rintro _ σ_ ⟨⟨gr, rfl, hgr⟩, e_⟩
  obtain rfl := e_.symm
  refine ⟨?_, Ext.refl _⟩
  cases gr
  case true =>
    ((conv => whnf); (repeat ((first | with_reducible (first | refine zT rfl ?_ | refine zF rfl ?_ | refine zY rfl ?_) | refine zY (by decide) ?_ | refine zN (by decide) ?_ | with_reducible refine zQ ?_); (conv => whnf))))
    refine acall (alive24 τ) ?_
    rintro _ σ_ ⟨rfl, e_⟩
    obtain rfl := e_.symm
    refine ⟨?_, Ext.refl _⟩
    ((conv => whnf); (repeat ((first | with_reducible (first | refine zT rfl ?_ | refine zF rfl ?_ | refine zY rfl ?_) | refine zY (by decide) ?_ | refine zN (by decide) ?_ | with_reducible refine zQ ?_); (conv => whnf))))
    exact aret (VLe.refl _) (Sub.refl _) ⟨rfl, H.left (L := [])⟩
  have hsm := hgr rfl
  have h40 := hsm.1
  have hto := small_sumX hsm
  ((conv => whnf); (repeat ((first | with_reducible (first | refine zT rfl ?_ | refine zF rfl ?_ | refine zY rfl ?_) | refine zY (by decide) ?_ | refine zN (by decide) ?_ | with_reducible refine zQ ?_); (conv => whnf))))
  (repeat ((first | refine zI (by omega) ?_ | refine zE (by omega) (by omega) ?_ | refine zD (by omega) (by omega) ?_ | refine zY (by omega) ?_ | refine zN (by omega) ?_ | refine amin ?_ | refine amax ?_ | refine zU (by omega) ?_ | refine z8 (by omega) ?_ | refine zX (by omega) (by omega) ?_ | refine zR rfl ?_ | refine acellA ?_ | refine zB H b1 rfl ?_ | refine zC H b1 ?_ | refine zB H b2 rfl ?_ | refine zC H b2 ?_ | refine zB H b3 rfl ?_ | refine zC H b3 ?_ | refine zB H b4 rfl ?_ | refine zC H b4 ?_ | (apply zL H; (· repeat first | exact .h | apply AtK.t); (· rfl)) | (apply zA H; (· repeat first | exact .h | apply AtK.t)) | (apply zS H; (· repeat first | exact .h | apply AtK.t); (· rfl); (conv => whnf); clear H; intro τ H) | rw [List.length_map]); ((conv => whnf); (repeat ((first | with_reducible (first | refine zT rfl ?_ | refine zF rfl ?_ | refine zY rfl ?_) | refine zY (by decide) ?_ | refine zN (by decide) ?_ | with_reducible refine zQ ?_); (conv => whnf))))))
  by_cases hk : kd = 0
  case neg =>
    (repeat ((first | refine zI (by omega) ?_ | refine zE (by omega) (by omega) ?_ | refine zD (by omega) (by omega) ?_ | refine zY (by omega) ?_ | refine zN (by omega) ?_ | refine amin ?_ | refine amax ?_ | refine zU (by omega) ?_ | refine z8 (by omega) ?_ | refine zX (by omega) (by omega) ?_ | refine zR rfl ?_ | refine acellA ?_ | refine zB H b1 rfl ?_ | refine zC H b1 ?_ | refine zB H b2 rfl ?_ | refine zC H b2 ?_ | refine zB H b3 rfl ?_ | refine zC H b3 ?_ | refine zB H b4 rfl ?_ | refine zC H b4 ?_ | (apply zL H; (· repeat first | exact .h | apply AtK.t); (· rfl)) | (apply zA H; (· repeat first | exact .h | apply AtK.t)) | (apply zS H; (· repeat first | exact .h | apply AtK.t); (· rfl); (conv => whnf); clear H; intro τ H) | rw [List.length_map]); ((conv => whnf); (repeat ((first | with_reducible (first | refine zT rfl ?_ | refine zF rfl ?_ | refine zY rfl ?_) | refine zY (by decide) ?_ | refine zN (by decide) ?_ | with_reducible refine zQ ?_); (conv => whnf))))))
    refine acall (xTake (XL.push H) ok osn) ?_
    clear H
    rintro _ τ ⟨rfl, X2, H, hX2, ok2, hl2⟩
    ((conv => whnf); (repeat ((first | with_reducible (first | refine zT rfl ?_ | refine zF rfl ?_ | refine zY rfl ?_) | refine zY (by decide) ?_ | refine zN (by decide) ?_ | with_reducible refine zQ ?_); (conv => whnf))))
    (repeat ((first | refine zI (by omega) ?_ | refine zE (by omega) (by omega) ?_ | refine zD (by omega) (by omega) ?_ | refine zY (by omega) ?_ | refine zN (by omega) ?_ | refine amin ?_ | refine amax ?_ | refine zU (by omega) ?_ | refine z8 (by omega) ?_ | refine zX (by omega) (by omega) ?_ | refine zR rfl ?_ | refine acellA ?_ | refine zB H b1 rfl ?_ | refine zC H b1 ?_ | refine zB H b2 rfl ?_ | refine zC H b2 ?_ | refine zB H b3 rfl ?_ | refine zC H b3 ?_ | refine zB H b4 rfl ?_ | refine zC H b4 ?_ | (apply zL H; (· repeat first | exact .h | apply AtK.t); (· rfl)) | (apply zA H; (· repeat first | exact .h | apply AtK.t)) | (apply zS H; (· repeat first | exact .h | apply AtK.t); (· rfl); (conv => whnf); clear H; intro τ H) | rw [List.length_map]); ((conv => whnf); (repeat ((first | with_reducible (first | refine zT rfl ?_ | refine zF rfl ?_ | refine zY rfl ?_) | refine zY (by decide) ?_ | refine zN (by decide) ?_ | with_reducible refine zQ ?_); (conv => whnf))))))
    refine ⟨(i + 1, X2, τ), ⟨by dsimp only; omega, (XL.pop H).tail, ok2, by dsimp only; omega⟩, by dsimp only; omega, Sub.refl _, ?_⟩
    ((conv => whnf); (repeat ((first | with_reducible (first | refine zT rfl ?_ | refine zF rfl ?_ | refine zY rfl ?_) | refine zY (by decide) ?_ | refine zN (by decide) ?_ | with_reducible refine zQ ?_); (conv => whnf))))
    (repeat' first | with_reducible exact EnvLe.refl _ | (refine EnvLe.node ?_ (by first | exact Or.inl rfl | exact Or.inr (Or.inl rfl) | exact Or.inr (Or.inr ⟨nofun, VLe.slice _ _ _⟩)) ?_))
  (repeat ((first | refine zI (by omega) ?_ | refine zE (by omega) (by omega) ?_ | refine zD (by omega) (by omega) ?_ | refine zY (by omega) ?_ | refine zN (by omega) ?_ | refine amin ?_ | refine amax ?_ | refine zU (by omega) ?_ | refine z8 (by omega) ?_ | refine zX (by omega) (by omega) ?_ | refine zR rfl ?_ | refine acellA ?_ | refine zB H b1 rfl ?_ | refine zC H b1 ?_ | refine zB H b2 rfl ?_ | refine zC H b2 ?_ | refine zB H b3 rfl ?_ | refine zC H b3 ?_ | refine zB H b4 rfl ?_ | refine zC H b4 ?_ | (apply zL H; (· repeat first | exact .h | apply AtK.t); (· rfl)) | (apply zA H; (· repeat first | exact .h | apply AtK.t)) | (apply zS H; (· repeat first | exact .h | apply AtK.t); (· rfl); (conv => whnf); clear H; intro τ H) | rw [List.length_map]); ((conv => whnf); (repeat ((first | with_reducible (first | refine zT rfl ?_ | refine zF rfl ?_ | refine zY rfl ?_) | refine zY (by decide) ?_ | refine zN (by decide) ?_ | with_reducible refine zQ ?_); (conv => whnf))))))
  refine acall (xBytes (XL.push H) ok) ?_
  rintro _ σ_ ⟨rfl, e_⟩
  obtain rfl := e_.symm
  refine ⟨?_, Ext.refl _⟩
  ((conv => whnf); (repeat ((first | with_reducible (first | refine zT rfl ?_ | refine zF rfl ?_ | refine zY rfl ?_) | refine zY (by decide) ?_ | refine zN (by decide) ?_ | with_reducible refine zQ ?_); (conv => whnf))))
  refine acall (xMissing (XL.push H) ok p.sn) ?_
  rintro _ σ_ ⟨rfl, e_⟩
  obtain rfl := e_.symm
  refine ⟨?_, Ext.refl _⟩
  ((conv => whnf); (repeat ((first | with_reducible (first | refine zT rfl ?_ | refine zF rfl ?_ | refine zY rfl ?_) | refine zY (by decide) ?_ | refine zN (by decide) ?_ | with_reducible refine zQ ?_); (conv => whnf))))
  (repeat ((first | refine zI (by omega) ?_ | refine zE (by omega) (by omega) ?_ | refine zD (by omega) (by omega) ?_ | refine zY (by omega) ?_ | refine zN (by omega) ?_ | refine amin ?_ | refine amax ?_ | refine zU (by omega) ?_ | refine z8 (by omega) ?_ | refine zX (by omega) (by omega) ?_ | refine zR rfl ?_ | refine acellA ?_ | refine zB H b1 rfl ?_ | refine zC H b1 ?_ | refine zB H b2 rfl ?_ | refine zC H b2 ?_ | refine zB H b3 rfl ?_ | refine zC H b3 ?_ | refine zB H b4 rfl ?_ | refine zC H b4 ?_ | (apply zL H; (· repeat first | exact .h | apply AtK.t); (· rfl)) | (apply zA H; (· repeat first | exact .h | apply AtK.t)) | (apply zS H; (· repeat first | exact .h | apply AtK.t); (· rfl); (conv => whnf); clear H; intro τ H) | rw [List.length_map]); ((conv => whnf); (repeat ((first | with_reducible (first | refine zT rfl ?_ | refine zF rfl ?_ | refine zY rfl ?_) | refine zY (by decide) ?_ | refine zN (by decide) ?_ | with_reducible refine zQ ?_); (conv => whnf))))))
  refine acall (xWhole (XL.push H) ok p.sn) ?_
  rintro _ σ_ ⟨rfl, e_⟩
  obtain rfl := e_.symm
  refine ⟨?_, Ext.refl _⟩
  ((conv => whnf); (repeat ((first | with_reducible (first | refine zT rfl ?_ | refine zF rfl ?_ | refine zY rfl ?_) | refine zY (by decide) ?_ | refine zN (by decide) ?_ | with_reducible refine zQ ?_); (conv => whnf))))
  (repeat ((first | refine zI (by omega) ?_ | refine zE (by omega) (by omega) ?_ | refine zD (by omega) (by omega) ?_ | refine zY (by omega) ?_ | refine zN (by omega) ?_ | refine amin ?_ | refine amax ?_ | refine zU (by omega) ?_ | refine z8 (by omega) ?_ | refine zX (by omega) (by omega) ?_ | refine zR rfl ?_ | refine acellA ?_ | refine zB H b1 rfl ?_ | refine zC H b1 ?_ | refine zB H b2 rfl ?_ | refine zC H b2 ?_ | refine zB H b3 rfl ?_ | refine zC H b3 ?_ | refine zB H b4 rfl ?_ | refine zC H b4 ?_ | (apply zL H; (· repeat first | exact .h | apply AtK.t); (· rfl)) | (apply zA H; (· repeat first | exact .h | apply AtK.t)) | (apply zS H; (· repeat first | exact .h | apply AtK.t); (· rfl); (conv => whnf); clear H; intro τ H) | rw [List.length_map]); ((conv => whnf); (repeat ((first | with_reducible (first | refine zT rfl ?_ | refine zF rfl ?_ | refine zY rfl ?_) | refine zY (by decide) ?_ | refine zN (by decide) ?_ | with_reducible refine zQ ?_); (conv => whnf))))))
  refine acall (xPut (XL.push H) ok (by omega) p (by omega) (by omega) hsn) ?_
  clear H
  rintro _ τ ⟨rfl, X2, H, hX2, ok2, hl2⟩
  replace H := XL.pop H
  ((conv => whnf); (repeat ((first | with_reducible (first | refine zT rfl ?_ | refine zF rfl ?_ | refine zY rfl ?_) | refine zY (by decide) ?_ | refine zN (by decide) ?_ | with_reducible refine zQ ?_); (conv => whnf))))
  by_cases h0 : putS (pvs X) p = 0
  case neg =>
    rw [putV_no h0] at hX2
    (repeat ((first | refine zI (by omega) ?_ | refine zE (by omega) (by omega) ?_ | refine zD (by omega) (by omega) ?_ | refine zY (by omega) ?_ | refine zN (by omega) ?_ | refine amin ?_ | refine amax ?_ | refine zU (by omega) ?_ | refine z8 (by omega) ?_ | refine zX (by omega) (by omega) ?_ | refine zR rfl ?_ | refine acellA ?_ | refine zB H b1 rfl ?_ | refine zC H b1 ?_ | refine zB H b2 rfl ?_ | refine zC H b2 ?_ | refine zB H b3 rfl ?_ | refine zC H b3 ?_ | refine zB H b4 rfl ?_ | refine zC H b4 ?_ | (apply zL H; (· repeat first | exact .h | apply AtK.t); (· rfl)) | (apply zA H; (· repeat first | exact .h | apply AtK.t)) | (apply zS H; (· repeat first | exact .h | apply AtK.t); (· rfl); (conv => whnf); clear H; intro τ H) | rw [List.length_map]); ((conv => whnf); (repeat ((first | with_reducible (first | refine zT rfl ?_ | refine zF rfl ?_ | refine zY rfl ?_) | refine zY (by decide) ?_ | refine zN (by decide) ?_ | with_reducible refine zQ ?_); (conv => whnf))))))
    refine acall (xBytes (XL.push H) ok2) ?_
    rintro _ σ_ ⟨rfl, e_⟩
    obtain rfl := e_.symm
    refine ⟨?_, Ext.refl _⟩
    ((conv => whnf); (repeat ((first | with_reducible (first | refine zT rfl ?_ | refine zF rfl ?_ | refine zY rfl ?_) | refine zY (by decide) ?_ | refine zN (by decide) ?_ | with_reducible refine zQ ?_); (conv => whnf))))
    rw [hX2]
    (repeat ((first | refine zI (by omega) ?_ | refine zE (by omega) (by omega) ?_ | refine zD (by omega) (by omega) ?_ | refine zY (by omega) ?_ | refine zN (by omega) ?_ | refine amin ?_ | refine amax ?_ | refine zU (by omega) ?_ | refine z8 (by omega) ?_ | refine zX (by omega) (by omega) ?_ | refine zR rfl ?_ | refine acellA ?_ | refine zB H b1 rfl ?_ | refine zC H b1 ?_ | refine zB H b2 rfl ?_ | refine zC H b2 ?_ | refine zB H b3 rfl ?_ | refine zC H b3 ?_ | refine zB H b4 rfl ?_ | refine zC H b4 ?_ | (apply zL H; (· repeat first | exact .h | apply AtK.t); (· rfl)) | (apply zA H; (· repeat first | exact .h | apply AtK.t)) | (apply zS H; (· repeat first | exact .h | apply AtK.t); (· rfl); (conv => whnf); clear H; intro τ H) | rw [List.length_map]); ((conv => whnf); (repeat ((first | with_reducible (first | refine zT rfl ?_ | refine zF rfl ?_ | refine zY rfl ?_) | refine zY (by decide) ?_ | refine zN (by decide) ?_ | with_reducible refine zQ ?_); (conv => whnf))))))
    refine acall (xMissing (XL.push H) ok2 p.sn) ?_
    rintro _ σ_ ⟨rfl, e_⟩
    obtain rfl := e_.symm
    refine ⟨?_, Ext.refl _⟩
    ((conv => whnf); (repeat ((first | with_reducible (first | refine zT rfl ?_ | refine zF rfl ?_ | refine zY rfl ?_) | refine zY (by decide) ?_ | refine zN (by decide) ?_ | with_reducible refine zQ ?_); (conv => whnf))))
    rw [hX2]
    (repeat ((first | refine zI (by omega) ?_ | refine zE (by omega) (by omega) ?_ | refine zD (by omega) (by omega) ?_ | refine zY (by omega) ?_ | refine zN (by omega) ?_ | refine amin ?_ | refine amax ?_ | refine zU (by omega) ?_ | refine z8 (by omega) ?_ | refine zX (by omega) (by omega) ?_ | refine zR rfl ?_ | refine acellA ?_ | refine zB H b1 rfl ?_ | refine zC H b1 ?_ | refine zB H b2 rfl ?_ | refine zC H b2 ?_ | refine zB H b3 rfl ?_ | refine zC H b3 ?_ | refine zB H b4 rfl ?_ | refine zC H b4 ?_ | (apply zL H; (· repeat first | exact .h | apply AtK.t); (· rfl)) | (apply zA H; (· repeat first | exact .h | apply AtK.t)) | (apply zS H; (· repeat first | exact .h | apply AtK.t); (· rfl); (conv => whnf); clear H; intro τ H) | rw [List.length_map]); ((conv => whnf); (repeat ((first | with_reducible (first | refine zT rfl ?_ | refine zF rfl ?_ | refine zY rfl ?_) | refine zY (by decide) ?_ | refine zN (by decide) ?_ | with_reducible refine zQ ?_); (conv => whnf))))))
    refine acall (xWhole (XL.push H) ok2 p.sn) ?_
    rintro _ σ_ ⟨rfl, e_⟩
    obtain rfl := e_.symm
    refine ⟨?_, Ext.refl _⟩
    ((conv => whnf); (repeat ((first | with_reducible (first | refine zT rfl ?_ | refine zF rfl ?_ | refine zY rfl ?_) | refine zY (by decide) ?_ | refine zN (by decide) ?_ | with_reducible refine zQ ?_); (conv => whnf))))
    rw [hX2]
    refine abr_false (by cases wholeS (pvs X) p.sn <;> rfl) ?_
    ((conv => whnf); (repeat ((first | with_reducible (first | refine zT rfl ?_ | refine zF rfl ?_ | refine zY rfl ?_) | refine zY (by decide) ?_ | refine zN (by decide) ?_ | with_reducible refine zQ ?_); (conv => whnf))))
    (repeat ((first | refine zI (by omega) ?_ | refine zE (by omega) (by omega) ?_ | refine zD (by omega) (by omega) ?_ | refine zY (by omega) ?_ | refine zN (by omega) ?_ | refine amin ?_ | refine amax ?_ | refine zU (by omega) ?_ | refine z8 (by omega) ?_ | refine zX (by omega) (by omega) ?_ | refine zR rfl ?_ | refine acellA ?_ | refine zB H b1 rfl ?_ | refine zC H b1 ?_ | refine zB H b2 rfl ?_ | refine zC H b2 ?_ | refine zB H b3 rfl ?_ | refine zC H b3 ?_ | refine zB H b4 rfl ?_ | refine zC H b4 ?_ | (apply zL H; (· repeat first | exact .h | apply AtK.t); (· rfl)) | (apply zA H; (· repeat first | exact .h | apply AtK.t)) | (apply zS H; (· repeat first | exact .h | apply AtK.t); (· rfl); (conv => whnf); clear H; intro τ H) | rw [List.length_map]); ((conv => whnf); (repeat ((first | with_reducible (first | refine zT rfl ?_ | refine zF rfl ?_ | refine zY rfl ?_) | refine zY (by decide) ?_ | refine zN (by decide) ?_ | with_reducible refine zQ ?_); (conv => whnf))))))
    refine acall (xBytes (XL.push H) ok2) ?_
    rintro _ σ_ ⟨rfl, e_⟩
    obtain rfl := e_.symm
    refine ⟨?_, Ext.refl _⟩
    ((conv => whnf); (repeat ((first | with_reducible (first | refine zT rfl ?_ | refine zF rfl ?_ | refine zY rfl ?_) | refine zY (by decide) ?_ | refine zN (by decide) ?_ | with_reducible refine zQ ?_); (conv => whnf))))
    rw [hX2]
    (repeat ((first | refine zI (by omega) ?_ | refine zE (by omega) (by omega) ?_ | refine zD (by omega) (by omega) ?_ | refine zY (by omega) ?_ | refine zN (by omega) ?_ | refine amin ?_ | refine amax ?_ | refine zU (by omega) ?_ | refine z8 (by omega) ?_ | refine zX (by omega) (by omega) ?_ | refine zR rfl ?_ | refine acellA ?_ | refine zB H b1 rfl ?_ | refine zC H b1 ?_ | refine zB H b2 rfl ?_ | refine zC H b2 ?_ | refine zB H b3 rfl ?_ | refine zC H b3 ?_ | refine zB H b4 rfl ?_ | refine zC H b4 ?_ | (apply zL H; (· repeat first | exact .h | apply AtK.t); (· rfl)) | (apply zA H; (· repeat first | exact .h | apply AtK.t)) | (apply zS H; (· repeat first | exact .h | apply AtK.t); (· rfl); (conv => whnf); clear H; intro τ H) | rw [List.length_map]); ((conv => whnf); (repeat ((first | with_reducible (first | refine zT rfl ?_ | refine zF rfl ?_ | refine zY rfl ?_) | refine zY (by decide) ?_ | refine zN (by decide) ?_ | with_reducible refine zQ ?_); (conv => whnf))))))
    have hlen2 : X2.length = X.length := by
      have h1 := congrArg List.length hX2
      rw [List.length_map, List.length_map] at h1
      exact h1
    refine acall (xPut (XL.push H) ok2 (by omega) p (by omega) (by omega) hsn) ?_
    clear H
    rintro _ τ ⟨rfl, X3, H, hX3, ok3, hl3⟩
    replace H := XL.pop H
    rw [hX2]
    rw [hX2, putV_no h0] at hX3
    ((conv => whnf); (repeat ((first | with_reducible (first | refine zT rfl ?_ | refine zF rfl ?_ | refine zY rfl ?_) | refine zY (by decide) ?_ | refine zN (by decide) ?_ | with_reducible refine zQ ?_); (conv => whnf))))
    (repeat ((first | refine zI (by omega) ?_ | refine zE (by omega) (by omega) ?_ | refine zD (by omega) (by omega) ?_ | refine zY (by omega) ?_ | refine zN (by omega) ?_ | refine amin ?_ | refine amax ?_ | refine zU (by omega) ?_ | refine z8 (by omega) ?_ | refine zX (by omega) (by omega) ?_ | refine zR rfl ?_ | refine acellA ?_ | refine zB H b1 rfl ?_ | refine zC H b1 ?_ | refine zB H b2 rfl ?_ | refine zC H b2 ?_ | refine zB H b3 rfl ?_ | refine zC H b3 ?_ | refine zB H b4 rfl ?_ | refine zC H b4 ?_ | (apply zL H; (· repeat first | exact .h | apply AtK.t); (· rfl)) | (apply zA H; (· repeat first | exact .h | apply AtK.t)) | (apply zS H; (· repeat first | exact .h | apply AtK.t); (· rfl); (conv => whnf); clear H; intro τ H) | rw [List.length_map]); ((conv => whnf); (repeat ((first | with_reducible (first | refine zT rfl ?_ | refine zF rfl ?_ | refine zY rfl ?_) | refine zY (by decide) ?_ | refine zN (by decide) ?_ | with_reducible refine zQ ?_); (conv => whnf))))))
    refine acall (xBytes (XL.push H) ok3) ?_
    rintro _ σ_ ⟨rfl, e_⟩
    obtain rfl := e_.symm
    refine ⟨?_, Ext.refl _⟩
    ((conv => whnf); (repeat ((first | with_reducible (first | refine zT rfl ?_ | refine zF rfl ?_ | refine zY rfl ?_) | refine zY (by decide) ?_ | refine zN (by decide) ?_ | with_reducible refine zQ ?_); (conv => whnf))))
    rw [hX3]
    (repeat ((first | refine zI (by omega) ?_ | refine zE (by omega) (by omega) ?_ | refine zD (by omega) (by omega) ?_ | refine zY (by omega) ?_ | refine zN (by omega) ?_ | refine amin ?_ | refine amax ?_ | refine zU (by omega) ?_ | refine z8 (by omega) ?_ | refine zX (by omega) (by omega) ?_ | refine zR rfl ?_ | refine acellA ?_ | refine zB H b1 rfl ?_ | refine zC H b1 ?_ | refine zB H b2 rfl ?_ | refine zC H b2 ?_ | refine zB H b3 rfl ?_ | refine zC H b3 ?_ | refine zB H b4 rfl ?_ | refine zC H b4 ?_ | (apply zL H; (· repeat first | exact .h | apply AtK.t); (· rfl)) | (apply zA H; (· repeat first | exact .h | apply AtK.t)) | (apply zS H; (· repeat first | exact .h | apply AtK.t); (· rfl); (conv => whnf); clear H; intro τ H) | rw [List.length_map]); ((conv => whnf); (repeat ((first | with_reducible (first | refine zT rfl ?_ | refine zF rfl ?_ | refine zY rfl ?_) | refine zY (by decide) ?_ | refine zN (by decide) ?_ | with_reducible refine zQ ?_); (conv => whnf))))))
    have hlen3 : X3.length = X.length := by
      have h1 := congrArg List.length hX3
      rw [List.length_map, List.length_map] at h1
      exact h1
    refine ⟨(i + 1, X3, τ), ⟨by dsimp only; omega, H.tail, ok3, by dsimp only; omega⟩, by dsimp only; omega, Sub.refl _, ?_⟩
    ((conv => whnf); (repeat ((first | with_reducible (first | refine zT rfl ?_ | refine zF rfl ?_ | refine zY rfl ?_) | refine zY (by decide) ?_ | refine zN (by decide) ?_ | with_reducible refine zQ ?_); (conv => whnf))))
    (repeat' first | with_reducible exact EnvLe.refl _ | (refine EnvLe.node ?_ (by first | exact Or.inl rfl | exact Or.inr (Or.inl rfl) | exact Or.inr (Or.inr ⟨nofun, VLe.slice _ _ _⟩)) ?_))
  rw [h0]
  ((conv => whnf); (repeat ((first | with_reducible (first | refine zT rfl ?_ | refine zF rfl ?_ | refine zY rfl ?_) | refine zY (by decide) ?_ | refine zN (by decide) ?_ | with_reducible refine zQ ?_); (conv => whnf))))
  (repeat ((first | refine zI (by omega) ?_ | refine zE (by omega) (by omega) ?_ | refine zD (by omega) (by omega) ?_ | refine zY (by omega) ?_ | refine zN (by omega) ?_ | refine amin ?_ | refine amax ?_ | refine zU (by omega) ?_ | refine z8 (by omega) ?_ | refine zX (by omega) (by omega) ?_ | refine zR rfl ?_ | refine acellA ?_ | refine zB H b1 rfl ?_ | refine zC H b1 ?_ | refine zB H b2 rfl ?_ | refine zC H b2 ?_ | refine zB H b3 rfl ?_ | refine zC H b3 ?_ | refine zB H b4 rfl ?_ | refine zC H b4 ?_ | (apply zL H; (· repeat first | exact .h | apply AtK.t); (· rfl)) | (apply zA H; (· repeat first | exact .h | apply AtK.t)) | (apply zS H; (· repeat first | exact .h | apply AtK.t); (· rfl); (conv => whnf); clear H; intro τ H) | rw [List.length_map]); ((conv => whnf); (repeat ((first | with_reducible (first | refine zT rfl ?_ | refine zF rfl ?_ | refine zY rfl ?_) | refine zY (by decide) ?_ | refine zN (by decide) ?_ | with_reducible refine zQ ?_); (conv => whnf))))))
  refine acall (xBytes (XL.push H) ok2) ?_
  rintro _ σ_ ⟨rfl, e_⟩
  obtain rfl := e_.symm
  refine ⟨?_, Ext.refl _⟩
  ((conv => whnf); (repeat ((first | with_reducible (first | refine zT rfl ?_ | refine zF rfl ?_ | refine zY rfl ?_) | refine zY (by decide) ?_ | refine zN (by decide) ?_ | with_reducible refine zQ ?_); (conv => whnf))))
  have hmore := put_more ok.inv h0
  rw [hX2]
  (repeat ((first | refine zI (by omega) ?_ | refine zE (by omega) (by omega) ?_ | refine zD (by omega) (by omega) ?_ | refine zY (by omega) ?_ | refine zN (by omega) ?_ | refine amin ?_ | refine amax ?_ | refine zU (by omega) ?_ | refine z8 (by omega) ?_ | refine zX (by omega) (by omega) ?_ | refine zR rfl ?_ | refine acellA ?_ | refine zB H b1 rfl ?_ | refine zC H b1 ?_ | refine zB H b2 rfl ?_ | refine zC H b2 ?_ | refine zB H b3 rfl ?_ | refine zC H b3 ?_ | refine zB H b4 rfl ?_ | refine zC H b4 ?_ | (apply zL H; (· repeat first | exact .h | apply AtK.t); (· rfl)) | (apply zA H; (· repeat first | exact .h | apply AtK.t)) | (apply zS H; (· repeat first | exact .h | apply AtK.t); (· rfl); (conv => whnf); clear H; intro τ H) | rw [List.length_map]); ((conv => whnf); (repeat ((first | with_reducible (first | refine zT rfl ?_ | refine zF rfl ?_ | refine zY rfl ?_) | refine zY (by decide) ?_ | refine zN (by decide) ?_ | with_reducible refine zQ ?_); (conv => whnf))))))
  refine acall (xBytes (XL.push H) ok2) ?_
  rintro _ σ_ ⟨rfl, e_⟩
  obtain rfl := e_.symm
  refine ⟨?_, Ext.refl _⟩
  ((conv => whnf); (repeat ((first | with_reducible (first | refine zT rfl ?_ | refine zF rfl ?_ | refine zY rfl ?_) | refine zY (by decide) ?_ | refine zN (by decide) ?_ | with_reducible refine zQ ?_); (conv => whnf))))
  rw [hX2]
  (repeat ((first | refine zI (by omega) ?_ | refine zE (by omega) (by omega) ?_ | refine zD (by omega) (by omega) ?_ | refine zY (by omega) ?_ | refine zN (by omega) ?_ | refine amin ?_ | refine amax ?_ | refine zU (by omega) ?_ | refine z8 (by omega) ?_ | refine zX (by omega) (by omega) ?_ | refine zR rfl ?_ | refine acellA ?_ | refine zB H b1 rfl ?_ | refine zC H b1 ?_ | refine zB H b2 rfl ?_ | refine zC H b2 ?_ | refine zB H b3 rfl ?_ | refine zC H b3 ?_ | refine zB H b4 rfl ?_ | refine zC H b4 ?_ | (apply zL H; (· repeat first | exact .h | apply AtK.t); (· rfl)) | (apply zA H; (· repeat first | exact .h | apply AtK.t)) | (apply zS H; (· repeat first | exact .h | apply AtK.t); (· rfl); (conv => whnf); clear H; intro τ H) | rw [List.length_map]); ((conv => whnf); (repeat ((first | with_reducible (first | refine zT rfl ?_ | refine zF rfl ?_ | refine zY rfl ?_) | refine zY (by decide) ?_ | refine zN (by decide) ?_ | with_reducible refine zQ ?_); (conv => whnf))))))
  refine acall (xPut (XL.push H) ok2 (by omega) p (by omega) (by omega) hsn) ?_
  clear H
  rintro _ τ ⟨rfl, X3, H, hX3, ok3, hl3⟩
  replace H := XL.pop H
  rw [hX2, put_twice ok.inv h0]
  rw [hX2, putV_no (by rw [put_twice ok.inv h0]; decide)] at hX3
  ((conv => whnf); (repeat ((first | with_reducible (first | refine zT rfl ?_ | refine zF rfl ?_ | refine zY rfl ?_) | refine zY (by decide) ?_ | refine zN (by decide) ?_ | with_reducible refine zQ ?_); (conv => whnf))))
  (repeat ((first | refine zI (by omega) ?_ | refine zE (by omega) (by omega) ?_ | refine zD (by omega) (by omega) ?_ | refine zY (by omega) ?_ | refine zN (by omega) ?_ | refine amin ?_ | refine amax ?_ | refine zU (by omega) ?_ | refine z8 (by omega) ?_ | refine zX (by omega) (by omega) ?_ | refine zR rfl ?_ | refine acellA ?_ | refine zB H b1 rfl ?_ | refine zC H b1 ?_ | refine zB H b2 rfl ?_ | refine zC H b2 ?_ | refine zB H b3 rfl ?_ | refine zC H b3 ?_ | refine zB H b4 rfl ?_ | refine zC H b4 ?_ | (apply zL H; (· repeat first | exact .h | apply AtK.t); (· rfl)) | (apply zA H; (· repeat first | exact .h | apply AtK.t)) | (apply zS H; (· repeat first | exact .h | apply AtK.t); (· rfl); (conv => whnf); clear H; intro τ H) | rw [List.length_map]); ((conv => whnf); (repeat ((first | with_reducible (first | refine zT rfl ?_ | refine zF rfl ?_ | refine zY rfl ?_) | refine zY (by decide) ?_ | refine zN (by decide) ?_ | with_reducible refine zQ ?_); (conv => whnf))))))
  refine acall (xBytes (XL.push H) ok3) ?_
  rintro _ σ_ ⟨rfl, e_⟩
  obtain rfl := e_.symm
  refine ⟨?_, Ext.refl _⟩
  ((conv => whnf); (repeat ((first | with_reducible (first | refine zT rfl ?_ | refine zF rfl ?_ | refine zY rfl ?_) | refine zY (by decide) ?_ | refine zN (by decide) ?_ | with_reducible refine zQ ?_); (conv => whnf))))
  rw [hX3]
  (repeat ((first | refine zI (by omega) ?_ | refine zE (by omega) (by omega) ?_ | refine zD (by omega) (by omega) ?_ | refine zY (by omega) ?_ | refine zN (by omega) ?_ | refine amin ?_ | refine amax ?_ | refine zU (by omega) ?_ | refine z8 (by omega) ?_ | refine zX (by omega) (by omega) ?_ | refine zR rfl ?_ | refine acellA ?_ | refine zB H b1 rfl ?_ | refine zC H b1 ?_ | refine zB H b2 rfl ?_ | refine zC H b2 ?_ | refine zB H b3 rfl ?_ | refine zC H b3 ?_ | refine zB H b4 rfl ?_ | refine zC H b4 ?_ | (apply zL H; (· repeat first | exact .h | apply AtK.t); (· rfl)) | (apply zA H; (· repeat first | exact .h | apply AtK.t)) | (apply zS H; (· repeat first | exact .h | apply AtK.t); (· rfl); (conv => whnf); clear H; intro τ H) | rw [List.length_map]); ((conv => whnf); (repeat ((first | with_reducible (first | refine zT rfl ?_ | refine zF rfl ?_ | refine zY rfl ?_) | refine zY (by decide) ?_ | refine zN (by decide) ?_ | with_reducible refine zQ ?_); (conv => whnf))))))
  have hlen3 : X3.length = X2.length := by
    have h1 := congrArg List.length hX3
    have h2 := congrArg List.length hX2
    rw [List.length_map] at h1 h2
    omega
  refine ⟨(i + 1, X3, τ), ⟨by dsimp only; omega, H.tail, ok3, by dsimp only; omega⟩, by dsimp only; omega, Sub.refl _, ?_⟩
  ((conv => whnf); (repeat ((first | with_reducible (first | refine zT rfl ?_ | refine zF rfl ?_ | refine zY rfl ?_) | refine zY (by decide) ?_ | refine zN (by decide) ?_ | with_reducible refine zQ ?_); (conv => whnf))))
  (repeat' first | with_reducible exact EnvLe.refl _ | (refine EnvLe.node ?_ (by first | exact Or.inl rfl | exact Or.inr (Or.inl rfl) | exact Or.inr (Or.inr ⟨nofun, VLe.slice _ _ _⟩)) ?_))
end Go.Proofs.Ytgobbmdbkmjlnaa
