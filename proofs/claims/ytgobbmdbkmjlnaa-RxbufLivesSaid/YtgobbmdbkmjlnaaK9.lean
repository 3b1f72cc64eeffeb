/-
  Texts of this claim, pack 9: Crxu, Crxv, Cpkx, Crxw, Cgreat, Claw24a, Claw24e.
-/
import Derived.Test.YtgobbmdbkmjlnaaK3
import Derived.Test.YtgobbmdbkmjlnaaK4
import Derived.Test.YtgobbmdbkmjlnaaK5
import Derived.Test.YtgobbmdbkmjlnaaK6
import Derived.Test.YtgobbmdbkmjlnaaK7
import Derived.Test.YtgobbmdbkmjlnaaK8
/-
  What came in parts: a buffer, and the document's beside it.
-/
namespace Go.Proofs.Ytgobbmdbkmjlnaa
set_option linter.unusedVariables false
set_option linter.unusedSimpArgs false
set_option maxRecDepth 20000
open Go Go.Am

structure RelL (S : List PV) (l : List DP) : Prop where
  sd : ∀ x ∈ S, ∃ d ∈ l, RelP x d
  ds : ∀ d ∈ l, ∃ x ∈ S, RelP x d
  nd : (S.map (·.sn)).Nodup
  up : (l.map (·.sn)).Pairwise (· < ·)
theorem up_inj {l : List DP} (h : (l.map (·.sn)).Pairwise (· < ·)) {d e : DP} (hd : d ∈ l) (he : e ∈ l) (hs : d.sn = e.sn) : d = e := by
  obtain ⟨A, B, rfl⟩ := List.append_of_mem hd
  rw [List.map_append, List.map_cons, List.pairwise_append, List.pairwise_cons] at h
  rcases List.mem_append.1 he with he | he
  · have := h.2.2 _ (List.mem_map_of_mem he) _ (List.mem_cons_self ..)
    omega
  · rcases List.mem_cons.1 he with rfl | he
    · rfl
    · have := h.2.1.1 _ (List.mem_map_of_mem he)
      omega
theorem nd_inj : ∀ {S : List PV}, (S.map (·.sn)).Nodup → ∀ {x y : PV}, x ∈ S → y ∈ S → x.sn = y.sn → x = y
  | [], _, x, _, hx, _, _ => by cases hx
  | a :: S, h, x, y, hx, hy, e => by
    rw [List.map_cons, List.nodup_cons] at h
    rcases List.mem_cons.1 hx with rfl | hx <;> rcases List.mem_cons.1 hy with rfl | hy
    · rfl
    · exact absurd (by rw [e]; exact List.mem_map_of_mem (f := fun x : PV => x.sn) hy) h.1
    · exact absurd (by rw [← e]; exact List.mem_map_of_mem (f := fun x : PV => x.sn) ‹_›) h.1
    · exact nd_inj h.2 hx hy e
theorem RelL.find {S : List PV} {l : List DP} (h : RelL S l) (sn : Int) :
    (findS S sn = none ∧ l.find? (fun d => d.sn == sn) = none ∧ (∀ x ∈ S, x.sn ≠ sn) ∧ (∀ d ∈ l, d.sn ≠ sn)) ∨
    ∃ x d, findS S sn = some x ∧ l.find? (fun d => d.sn == sn) = some d ∧ RelP x d ∧ x ∈ S ∧ d ∈ l ∧ x.sn = sn ∧ d.sn = sn := by
  cases hf : findS S sn with
  | none =>
    have hn : ∀ x ∈ S, x.sn ≠ sn := fun x hx e => by
      have := List.find?_eq_none.1 hf x hx
      simp [e] at this
    have hd : ∀ d ∈ l, d.sn ≠ sn := fun d hd e => by
      obtain ⟨x, hx, r⟩ := h.ds d hd
      exact hn x hx (by rw [← r.sn, e])
    exact .inl ⟨rfl, List.find?_eq_none.2 fun d hd' => by simp [hd d hd'], hn, hd⟩
  | some x =>
    have hx := List.mem_of_find?_eq_some hf
    have hs : x.sn = sn := by have := List.find?_some hf; simpa using this
    obtain ⟨d, hd, r⟩ := h.sd x hx
    cases hl : l.find? (fun d => d.sn == sn) with
    | none =>
      have := List.find?_eq_none.1 hl d hd
      simp [r.sn, hs] at this
    | some e =>
      have he := List.mem_of_find?_eq_some hl
      have hes : e.sn = sn := by have := List.find?_some hl; simpa using this
      have : e = d := up_inj h.up he hd (by rw [hes, r.sn, hs])
      subst this
      exact .inr ⟨x, e, rfl, rfl, r, hx, he, hs, hes⟩
section
variable {S : List PV} {l : List DP}
theorem RelL.code (h : RelL S l) (ok : ∀ x ∈ S, x.Ok) (hok : ∀ d ∈ l, d.Ok) (p : Pk) : putS S p = putDc l p := by
  unfold putS lS eS
  rcases h.find p.sn with ⟨h1, h2, _⟩ | ⟨x, d, h1, h2, r, hx, hd, _⟩
  · rw [h1]
    exact (relP_fresh p.sn).code SOk.nil (freshD_ok p.sn) (by unfold pieceD; rw [h2])
  · rw [h1]
    exact r.code (ok x hx).so (hok d hd) (by unfold pieceD; rw [h2])
theorem putS_right {S : List PV} {p : Pk} (h : putS S p = 0) : rightB p = true := by
  unfold putS putK at h
  rcases (show rightB p = false ∨ rightB p = true by cases rightB p <;> simp) with hr | hr
  · rw [if_pos hr] at h; cases h
  · exact hr
theorem RelL.put (h : RelL S l) (ok : ∀ x ∈ S, x.Ok) {p : Pk} (hsn : inR p.sn) {A B : List DP} (h0 : putS S p = 0) (hA : ∀ d ∈ A, d.sn < p.sn) (hB : ∀ d ∈ B, p.sn < d.sn)
    (hc : (l = A ++ B ∧ pieceD l p.sn = freshD p.sn) ∨ (l = A ++ pieceD l p.sn :: B ∧ (pieceD l p.sn).sn = p.sn)) : RelL (putV S p) (A ++ withD (pieceD l p.sn) p (endsP p) :: B) := by
  have hr := putS_right h0
  have hAB : ∀ d, d ∈ A ∨ d ∈ B → d ∈ l ∧ d.sn ≠ p.sn := fun d hd => by
    have e1 : d.sn ≠ p.sn := by
      rcases hd with hd | hd
      · have := hA d hd; omega
      · have := hB d hd; omega
    refine ⟨?_, e1⟩
    rcases hc with ⟨e, _⟩ | ⟨e, _⟩
    · rw [e]; exact List.mem_append.2 hd
    · rw [e]
      rcases hd with hd | hd
      · exact List.mem_append.2 (.inl hd)
      · exact List.mem_append.2 (.inr (List.mem_cons_of_mem _ hd))
  have hup0 : ((A ++ B).map (·.sn)).Pairwise (· < ·) := by
    have := h.up
    rcases hc with ⟨e, _⟩ | ⟨e, _⟩
    · rw [e] at this; exact this
    · rw [e] at this
      exact this.sublist (((List.Sublist.refl A).append (List.sublist_cons_self _ B)).map _)
  have hup : ∀ y : DP, y.sn = p.sn → ((A ++ y :: B).map (·.sn)).Pairwise (· < ·) := fun y hy => by
    rw [List.map_append, List.pairwise_append] at hup0
    rw [List.map_append, List.map_cons, List.pairwise_append, List.pairwise_cons]
    refine ⟨hup0.1, ⟨fun b hb => ?_, hup0.2.1⟩, fun a ha b hb => ?_⟩
    · obtain ⟨d, hd, rfl⟩ := List.mem_map.1 hb
      rw [hy]; exact hB d hd
    · rcases List.mem_cons.1 hb with rfl | hb
      · obtain ⟨d, hd, rfl⟩ := List.mem_map.1 ha
        rw [hy]; exact hA d hd
      · exact hup0.2.2 a ha b hb
  have hmid : ∀ y : DP, ∀ d, d ∈ A ++ y :: B → d = y ∨ (d ∈ A ∨ d ∈ B) := fun y d hd => by
    rcases List.mem_append.1 hd with hd | hd
    · exact .inr (.inl hd)
    · rcases List.mem_cons.1 hd with rfl | hd
      · exact .inl rfl
      · exact .inr (.inr hd)
  have hin : ∀ y : DP, ∀ d, (d ∈ A ∨ d ∈ B) → d ∈ A ++ y :: B := fun y d hd => by
    rcases hd with hd | hd
    · exact List.mem_append.2 (.inl hd)
    · exact List.mem_append.2 (.inr (List.mem_cons_of_mem _ hd))
  unfold putV
  rw [if_neg (by rw [h0]; simp)]
  rcases h.find p.sn with ⟨h1, h2, h3, h4⟩ | ⟨x, d, h1, h2, r, hx, hd, hxs, hds⟩
  · rw [h1]
    have hpc : pieceD l p.sn = freshD p.sn := by unfold pieceD; rw [h2]
    rw [hpc] at hc ⊢
    have hkk : putK p [] (-1) = 0 := by unfold putS lS eS at h0; rw [h1] at h0; exact h0
    have hR := (relP_fresh p.sn).put (PV.Ok.fresh hsn) hr hkk
    have hl : l = A ++ B := by
      rcases hc with ⟨e, _⟩ | ⟨e, h5⟩
      · exact e
      · exact absurd h5 (h4 _ (e ▸ List.mem_append.2 (.inr (List.mem_cons_self ..))))
    refine ⟨fun x hx => ?_, fun d hd => ?_, ?_, hup _ rfl⟩
    · rcases List.mem_append.1 hx with hx | hx
      · obtain ⟨d, hd, r⟩ := h.sd x hx
        exact ⟨d, hin _ _ (by rw [hl] at hd; exact List.mem_append.1 hd), r⟩
      · rw [List.mem_singleton.1 hx]
        exact ⟨_, List.mem_append.2 (.inr (List.mem_cons_self ..)), hR⟩
    · rcases hmid _ d hd with rfl | hd
      · exact ⟨_, List.mem_append.2 (.inr (List.mem_singleton.2 rfl)), hR⟩
      · obtain ⟨x, hx, r⟩ := h.ds d (hAB d hd).1
        exact ⟨x, List.mem_append.2 (.inl hx), r⟩
    · rw [List.map_append, List.nodup_append]
      refine ⟨h.nd, by simp, fun a ha b hb e => ?_⟩
      obtain ⟨z, hz, rfl⟩ := List.mem_map.1 ha
      simp [updV, freshV] at hb
      exact h3 z hz (by rw [e, hb])
  · rw [h1]
    have hpc : pieceD l p.sn = d := by unfold pieceD; rw [h2]
    rw [hpc] at hc ⊢
    have hkk : putK p x.l x.e = 0 := by unfold putS lS eS at h0; rw [h1] at h0; exact h0
    have hR := r.put (ok x hx) hr hkk
    refine ⟨fun y hy => ?_, fun e he => ?_, ?_, hup _ hds⟩
    · obtain ⟨z, hz, rfl⟩ := List.mem_map.1 hy
      by_cases hzs : z.sn = p.sn
      · have : z = x := nd_inj h.nd hz hx (by rw [hzs, hxs])
        subst this
        rw [if_pos hzs]
        exact ⟨_, List.mem_append.2 (.inr (List.mem_cons_self ..)), hR⟩
      · rw [if_neg hzs]
        obtain ⟨e, he, r2⟩ := h.sd z hz
        refine ⟨e, hin _ _ ?_, r2⟩
        have hes : e.sn ≠ p.sn := by rw [r2.sn]; exact hzs
        rcases hc with ⟨e1, _⟩ | ⟨e1, _⟩
        · rw [e1] at he; exact List.mem_append.1 he
        · rw [e1] at he
          rcases hmid _ e he with rfl | he
          · exact absurd hds hes
          · exact he
    · rcases hmid _ e he with rfl | he
      · exact ⟨updV x p, List.mem_map.2 ⟨x, hx, by rw [if_pos hxs]⟩, hR⟩
      · obtain ⟨hel, hes⟩ := hAB e he
        obtain ⟨z, hz, r2⟩ := h.ds e hel
        exact ⟨z, List.mem_map.2 ⟨z, hz, by rw [if_neg (by rw [← r2.sn]; exact hes)]⟩, r2⟩
    · rw [List.map_map]
      rw [show S.map ((·.sn) ∘ fun x => if x.sn = p.sn then updV x p else x) = S.map (·.sn) from List.map_congr_left fun z _ => by
        show (if z.sn = p.sn then updV z p else z).sn = z.sn
        split <;> rfl]
      exact h.nd
def dropV (S : List PV) (sn : Int) : List PV := S.filter fun x => decide (x.sn ≠ sn)
theorem dropV_no {sn : Int} (h : ∀ x ∈ S, x.sn ≠ sn) : dropV S sn = S := List.filter_eq_self.2 fun x hx => decide_eq_true (h x hx)
theorem RelL.drop (h : RelL S l) {sn : Int} {A B : List DP} {d : DP} (hl : l = A ++ d :: B) (hd : d.sn = sn) : RelL (dropV S sn) (A ++ B) := by
  have hne : ∀ e ∈ A ++ B, e ∈ l ∧ e.sn ≠ sn := fun e he => by
    have hup := h.up
    rw [hl, List.map_append, List.map_cons, List.pairwise_append, List.pairwise_cons] at hup
    rcases List.mem_append.1 he with he | he
    · refine ⟨by rw [hl]; exact List.mem_append.2 (.inl he), ?_⟩
      have := hup.2.2 _ (List.mem_map_of_mem he) _ (List.mem_cons_self ..)
      omega
    · refine ⟨by rw [hl]; exact List.mem_append.2 (.inr (List.mem_cons_of_mem _ he)), ?_⟩
      have := hup.2.1.1 _ (List.mem_map_of_mem he)
      omega
  refine ⟨fun x hx => ?_, fun e he => ?_, ?_, ?_⟩
  · have hx := List.mem_filter.1 hx
    have hxs := of_decide_eq_true hx.2
    obtain ⟨e, he, r⟩ := h.sd x hx.1
    refine ⟨e, ?_, r⟩
    rw [hl] at he
    rcases List.mem_append.1 he with he | he
    · exact List.mem_append.2 (.inl he)
    · rcases List.mem_cons.1 he with rfl | he
      · exact absurd (by rw [← r.sn, hd]) hxs
      · exact List.mem_append.2 (.inr he)
  · obtain ⟨h1, h2⟩ := hne e he
    obtain ⟨x, hx, r⟩ := h.ds e h1
    exact ⟨x, List.mem_filter.2 ⟨hx, decide_eq_true (by rw [← r.sn]; exact h2)⟩, r⟩
  · exact h.nd.sublist (List.filter_sublist.map _)
  · have := h.up
    rw [hl] at this
    exact this.sublist (((List.Sublist.refl A).append (List.sublist_cons_self _ B)).map _)
theorem RelL.whole (h : RelL S l) (ok : ∀ x ∈ S, x.Ok) (hok : ∀ d ∈ l, d.Ok) (sn : Int) : wholeS S sn = match l.find? (fun d => d.sn == sn) with
    | none => false
    | some d => wholeD d := by
  unfold wholeS
  rcases h.find sn with ⟨h1, h2, _⟩ | ⟨x, d, h1, h2, r, hx, hd, _⟩
  · rw [h1, h2]
  · rw [h1, h2]; exact r.whole (ok x hx).so (hok d hd)
theorem RelL.miss (h : RelL S l) (ok : ∀ x ∈ S, x.Ok) (hok : ∀ d ∈ l, d.Ok) (sn : Int) : missS S sn = missE l sn := by
  unfold missS missE
  rcases h.find sn with ⟨h1, h2, _⟩ | ⟨x, d, h1, h2, r, hx, hd, _⟩
  · rw [h1, h2]
  · rw [h1, h2]; exact r.miss (ok x hx).so (hok d hd)
theorem RelL.takeC (h : RelL S l) (ok : ∀ x ∈ S, x.Ok) (hok : ∀ d ∈ l, d.Ok) (sn : Int) : takeC S sn = takeDc l sn ∧ takeF S sn = takeDf l sn := by
  unfold Go.Proofs.Ytgobbmdbkmjlnaa.takeC takeF takeDc takeDf
  rcases h.find sn with ⟨h1, h2, _⟩ | ⟨x, d, h1, h2, r, hx, hd, _⟩
  · rw [h1, h2]; exact ⟨rfl, rfl⟩
  · rw [h1, h2]
    dsimp only
    rw [r.whole (ok x hx).so (hok d hd)]
    refine ⟨rfl, ?_⟩
    by_cases hw : wholeD d = true
    · rw [if_pos hw, if_pos hw, r.take (ok x hx).so (hok d hd) hw, r.fi]
    · rw [if_neg hw, if_neg hw]
theorem RelL.perm (h : RelL S l) : (S.map (·.sn)).Perm (l.map (·.sn)) := by
  refine (List.perm_ext_iff_of_nodup h.nd (h.up.imp fun h => by omega)).2 fun k => ⟨fun hk => ?_, fun hk => ?_⟩
  · obtain ⟨x, hx, rfl⟩ := List.mem_map.1 hk
    obtain ⟨d, hd, r⟩ := h.sd x hx
    exact List.mem_map.2 ⟨d, hd, r.sn⟩
  · obtain ⟨d, hd, rfl⟩ := List.mem_map.1 hk
    obtain ⟨x, hx, r⟩ := h.ds d hd
    exact List.mem_map.2 ⟨x, hx, r.sn.symm⟩
theorem RelL.len (h : RelL S l) : S.length = l.length := by simpa using h.perm.length_eq
theorem RelL.nums (h : RelL S l) : sortI (S.map (·.sn)) = l.map (·.sn) := by
  rw [sortI_eq h.perm]
  refine List.Perm.eq_of_pairwise (le := fun x y : Int => x ≤ y) (fun x y _ _ h1 h2 => by omega) (sortI_sorted _) (h.up.imp fun h => by omega) (sortI_perm _)
theorem nodup_of_map {α β : Type} (f : α → β) : ∀ {l : List α}, (l.map f).Nodup → l.Nodup
  | [], _ => .nil
  | a :: l, h => by
    rw [List.map_cons, List.nodup_cons] at h
    exact List.nodup_cons.2 ⟨fun hm => h.1 (List.mem_map_of_mem hm), nodup_of_map f h.2⟩
theorem RelL.bytes (h : RelL S l) (ok : ∀ x ∈ S, x.Ok) : bytesS S = bytesD l := by
  let q : PV → Int × Int := fun x => (x.sn, cntL x.l)
  let r : DP → Int × Int := fun d => (d.sn, ((cntT (thereL d.B) (0, (d.B.length : Int)) : Nat) : Int))
  have hqr : ∀ x d, x ∈ S → RelP x d → q x = r d := fun x d hx h => by
    have := rel_cnt (ok x hx).so h.rel
    rw [thereL_len] at this
    show (x.sn, cntL x.l) = (d.sn, _)
    rw [h.sn, this]
  have n1 : (S.map q).Nodup := nodup_of_map (·.1) (by rw [List.map_map]; exact h.nd)
  have n2 : (l.map r).Nodup := nodup_of_map (·.1) (by rw [List.map_map]; exact h.up.imp fun h => by omega)
  have hp : (S.map q).Perm (l.map r) := by
    refine (List.perm_ext_iff_of_nodup n1 n2).2 fun k => ⟨fun hk => ?_, fun hk => ?_⟩
    · obtain ⟨x, hx, rfl⟩ := List.mem_map.1 hk
      obtain ⟨d, hd, rr⟩ := h.sd x hx
      exact List.mem_map.2 ⟨d, hd, (hqr x d hx rr).symm⟩
    · obtain ⟨d, hd, rfl⟩ := List.mem_map.1 hk
      obtain ⟨x, hx, rr⟩ := h.ds d hd
      exact List.mem_map.2 ⟨x, hx, hqr x d hx rr⟩
  have := sum_perm (hp.map (·.2))
  rw [List.map_map, List.map_map] at this
  exact this
end
end Go.Proofs.Ytgobbmdbkmjlnaa
/-
  What came in parts: a buffer, and the document's beside it: what is called of both.
-/
namespace Go.Proofs.Ytgobbmdbkmjlnaa
set_option linter.unusedVariables false
set_option linter.unusedSimpArgs false
set_option maxRecDepth 20000
open Go Go.Am

section
variable {σb σ : AHeap} {ib im : Nat} {X A B : List PX} {x : PX} {G : List HE}
theorem xNumbers (H : Hp σb (XL ib im X G) σ) (ok : XOk X) : ACalls Try.prog i_rxbuf_Buffer_Numbers [.ptr ib 0] σ fun v σ' => v = ints .none (sortI ((pvs X).map (·.sn))) ∧ σ' = σ := by
  have := buNumbers (H.get (k := 0) rfl) (H.get (k := 1) rfl) (by rw [List.length_map]; have := ok.len; omega) (fun e he => by obtain ⟨x, hx, rfl⟩ := List.mem_map.1 he; exact (ok.ok x hx).sn)
  rw [show (esX X).map (·.1) = (pvs X).map (·.sn) by rw [List.map_map, List.map_map]; rfl] at this
  exact this
theorem buDropNone {es : List (Int × AVal)} (b1 : σ ib = some (.cells (buC im))) (b2 : σ im = some (.map es)) (sn : Int) (he : es.find? (fun e => e.1 == sn) = none) :
    ACalls Try.prog i_rxbuf_Buffer_Drop [.ptr ib 0, i64v sn] σ fun v σ' => v = i64v 4 ∧ σ' = σ := by
  refine k_rxbuf_Buffer_Drop rfl ?_
  (refine wX ?_)
  refine acall (buNone b1 b2 sn he) ?_
  rintro _ σ_ ⟨rfl, e_⟩
  obtain rfl := e_.symm
  refine ⟨?_, Ext.refl _⟩
  (refine wX ?_)
  exact aret (VLe.refl _) (Sub.refl _) ⟨rfl, rfl⟩
theorem buDrop {ip : Nat} {es : List (Int × AVal)} {F : List HE} (H : Hp σb (.o ib (.cells (buC im)) :: .o im (.map es) :: F) σ) (sn : Int) (he : es.find? (fun e => e.1 == sn) = some (sn, .ptr ip 0)) :
    ACalls Try.prog i_rxbuf_Buffer_Drop [.ptr ib 0, i64v sn] σ fun v σ' => v = i64v 0 ∧ Hp σb (.o ib (.cells (buC im)) :: .o im (.map (mapDel es sn)) :: F) σ' := by
  refine k_rxbuf_Buffer_Drop rfl ?_
  (refine wX ?_)
  refine acall (buFind (H.get (k := 0) rfl) (H.get (k := 1) rfl) sn he) ?_
  rintro _ σ_ ⟨rfl, e_⟩
  obtain rfl := e_.symm
  refine ⟨?_, Ext.refl _⟩
  (refine wX ?_)
  (repeat ((first | refine zI (by omega) ?_ | refine zE (by omega) (by omega) ?_ | refine zD (by omega) (by omega) ?_ | refine zY (by omega) ?_ | refine zN (by omega) ?_ | refine amin ?_ | refine amax ?_ | refine zU (by omega) ?_ | refine z8 (by omega) ?_ | refine zX (by omega) (by omega) ?_ | refine zR rfl ?_ | refine acellA ?_ | (apply zL H; (· repeat first | exact .h | apply AtK.t); (· rfl)) | (apply zA H; (· repeat first | exact .h | apply AtK.t)) | (apply zS H; (· repeat first | exact .h | apply AtK.t); (· rfl); (conv => whnf); clear H; intro τ H) | rw [List.length_map]); (refine wX ?_)))
  apply zMd H
  · (repeat first | exact .h | apply AtK.t)
  (conv => whnf)
  clear H
  intro τ H
  (refine wX ?_)
  (repeat ((first | refine zI (by omega) ?_ | refine zE (by omega) (by omega) ?_ | refine zD (by omega) (by omega) ?_ | refine zY (by omega) ?_ | refine zN (by omega) ?_ | refine amin ?_ | refine amax ?_ | refine zU (by omega) ?_ | refine z8 (by omega) ?_ | refine zX (by omega) (by omega) ?_ | refine zR rfl ?_ | refine acellA ?_ | (apply zL H; (· repeat first | exact .h | apply AtK.t); (· rfl)) | (apply zA H; (· repeat first | exact .h | apply AtK.t)) | (apply zS H; (· repeat first | exact .h | apply AtK.t); (· rfl); (conv => whnf); clear H; intro τ H) | rw [List.length_map]); (refine wX ?_)))
  exact aret (VLe.refl _) (Sub.refl _) ⟨rfl, H⟩
def dropVc (S : List PV) (sn : Int) : Int := if findS S sn = none then 4 else 0
theorem xDrop (H : Hp σb (XL ib im X G) σ) (ok : XOk X) (sn : Int) :
    ACalls Try.prog i_rxbuf_Buffer_Drop [.ptr ib 0, i64v sn] σ fun r σ' => r = i64v (dropVc (pvs X) sn) ∧ ∃ X', Hp σb (XL ib im X' G) σ' ∧ pvs X' = dropV (pvs X) sn ∧ XOk X' ∧ X'.length ≤ X.length := by
  unfold dropVc
  rcases findX ok.nd sn with ⟨A, x, B, hX, h1, h2, h3, h4, h5⟩ | ⟨h1, h2, h3⟩
  · rw [h3, if_neg (by simp)]
    subst hX
    have K := XL.outX H
    replace K : Hp σb (.o ib (.cells (buC im)) :: .o im (.map (esX (A ++ x :: B))) :: (x.hd ++ (x.E ++ (flatX A ++ (flatX B ++ G))))) σ := Hp.mid (A := x.hd) (B := [.o ib (.cells (buC im)), .o im (.map (esX (A ++ x :: B)))]) K
    refine acall_less (buDrop K sn h2) ?_
    rintro _ σ' ⟨rfl, K⟩
    rw [mapDel_split h1 h4] at K
    refine ⟨_, _, VLe.refl _, Sub.refl _, rfl, A ++ B, ?_, ?_, ?_, by simp⟩
    · have K := Hp.rest (A := x.hd) (Hp.mid (A := [.o ib (.cells (buC im)), .o im (.map (esX (A ++ B)))]) (B := x.hd) K)
      have K := Hp.rest (A := x.E) (Hp.mid (A := [.o ib (.cells (buC im)), .o im (.map (esX (A ++ B)))]) (B := x.E) K)
      show Hp σb (.o ib (.cells (buC im)) :: .o im (.map (esX (A ++ B))) :: (flatX (A ++ B) ++ G)) σ'
      rw [flatX_append, List.append_assoc]
      exact K
    · show (A ++ B).map (·.pv) = dropV ((A ++ x :: B).map (·.pv)) sn
      unfold dropV
      rw [List.map_append, List.map_append, List.map_cons, List.filter_append, List.filter_cons]
      rw [if_neg (by simp [h1])]
      rw [List.filter_eq_self.2, List.filter_eq_self.2]
      · intro y hy; obtain ⟨z, hz, rfl⟩ := List.mem_map.1 hy; exact decide_eq_true (h5 z hz)
      · intro y hy; obtain ⟨z, hz, rfl⟩ := List.mem_map.1 hy; exact decide_eq_true (h4 z hz)
    · refine ⟨?_, fun y hy => ok.ok y ?_, fun y hy => ok.rb y ?_, ?_⟩
      · have := ok.nd
        rw [List.map_append, List.map_cons] at this
        rw [List.map_append]
        exact this.sublist (List.Sublist.append_left (List.sublist_cons_self _ _) _)
      · rcases List.mem_append.1 hy with hy | hy <;> simp [hy]
      · rcases List.mem_append.1 hy with hy | hy <;> simp [hy]
      · have := ok.len
        simp at this ⊢; omega
  · rw [h3, if_pos rfl]
    refine acall_less (buDropNone (H.get (k := 0) rfl) (H.get (k := 1) rfl) sn h2) ?_
    rintro _ σ' ⟨rfl, rfl⟩
    exact ⟨_, _, VLe.refl _, Sub.refl _, rfl, X, H, (dropV_no fun y hy => by obtain ⟨z, hz, rfl⟩ := List.mem_map.1 hy; exact h1 z hz).symm, ok, Nat.le_refl _⟩
end
/-- Both buffers, one of which may be ahead. -/
structure MidB (σb : AHeap) (ib ix : Nat) (k k2 : Nat) (P : List PV → Prop) (f : List PV → List PV) (G : List HE) (τ : AHeap) : Prop where
  ex : ∃ im X tk l S, P S ∧ pvs X = f S ∧ Hp σb (XL ib im X (.o ix (.cells (dbC tk l)) :: G)) τ ∧ XOk X ∧ (∀ x ∈ S, x.Ok) ∧ (∀ d ∈ l, d.Ok) ∧ RelL S l ∧ X.length ≤ k2 ∧ l.length ≤ k
abbrev BothB (σb : AHeap) (ib ix : Nat) (k : Nat) (G : List HE) (τ : AHeap) : Prop := MidB σb ib ix k k (fun _ => True) id G τ
section
variable {σb τ : AHeap} {ib ix k k2 : Nat} {G : List HE} {P : List PV → Prop} {f : List PV → List PV}
theorem Hp.outB {im : Nat} {X : List PX} {y : HE} (H : Hp σb (XL ib im X (y :: G)) τ) : Hp σb (y :: XL ib im X G) τ :=
  Hp.mid (A := .o ib (.cells (buC im)) :: .o im (.map (esX X)) :: flatX X) (B := [y]) (C := G) H
theorem Hp.inB {im : Nat} {X : List PX} {y : HE} (H : Hp σb (y :: XL ib im X G) τ) : Hp σb (XL ib im X (y :: G)) τ :=
  Hp.mid (A := [y]) (B := .o ib (.cells (buC im)) :: .o im (.map (esX X)) :: flatX X) (C := G) H
theorem MidB.push {E : List HE} {τ' : AHeap} (M : MidB σb ib ix k k2 P f G τ) (N : Hp τ E τ') : MidB σb ib ix k k2 P f (E ++ G) τ' := by
  obtain ⟨im, X, tk, l, S, hP, hS, H, h⟩ := M
  have H := H.join N
  have H := Hp.mid (A := E) (B := .o ib (.cells (buC im)) :: .o im (.map (esX X)) :: (flatX X ++ [.o ix (.cells (dbC tk l))])) (C := G) (by simp only [List.append_assoc, List.cons_append, List.nil_append] at H ⊢; exact H)
  simp only [List.append_assoc, List.cons_append, List.nil_append] at H
  exact ⟨im, X, tk, l, S, hP, hS, H, h⟩
theorem MidB.pop {E : List HE} (M : MidB σb ib ix k k2 P f (E ++ G) τ) : MidB σb ib ix k k2 P f G τ := by
  obtain ⟨im, X, tk, l, S, hP, hS, H, h⟩ := M
  have H := Hp.mid (A := .o ib (.cells (buC im)) :: .o im (.map (esX X)) :: (flatX X ++ [.o ix (.cells (dbC tk l))])) (B := E) (C := G) (by simp only [List.append_assoc, List.cons_append, List.nil_append] at H ⊢; exact H)
  have H := Hp.rest (A := E) H
  simp only [List.append_assoc, List.cons_append, List.nil_append] at H
  exact ⟨im, X, tk, l, S, hP, hS, H, h⟩
theorem MidB.at_ {i : Nat} {c : AObj} (M : MidB σb ib ix k k2 P f (.o i c :: G) τ) : τ i = some c := by
  obtain ⟨im, X, tk, l, S, hP, hS, H, h⟩ := M
  exact H.ok (.o i c) (by simp)
theorem MidB.heap (M : MidB σb ib ix k k2 P f G τ) : Hp σb [] τ := by
  obtain ⟨im, X, tk, l, S, hP, hS, H, h⟩ := M
  exact H.left (L := [])
theorem MidB.more {k3 : Nat} (M : BothB σb ib ix k G τ) (h : k ≤ k3) : BothB σb ib ix k3 G τ := by
  obtain ⟨im, X, tk, l, S, hP, hS, H, h1, h2, h3, h4, h5, h6⟩ := M
  exact ⟨im, X, tk, l, S, hP, hS, H, h1, h2, h3, h4, by omega, by omega⟩
theorem cPut1 (M : BothB σb ib ix k G τ) (hk : k ≤ 900) (p : Pk) (hl : p.fs.length ≤ 1000) (ht : total p.fs ≤ 1000000) (hsn : inR p.sn) :
    ACalls Try.prog i_rxbuf_Buffer_Put [.ptr ib 0, amV p] τ fun v σ' => ∃ q : Int, v = i64v q ∧ MidB σb ib ix k (k + 1) (fun S => q = putS S p) (fun S => putV S p) G σ' := by
  obtain ⟨im, X, tk, l, S, hP, hS, H, ok, hSo, hok, hR, hX, hll⟩ := M
  have hS : pvs X = S := hS
  subst hS
  refine acall_less (xPut H ok (by omega) p hl ht hsn) ?_
  rintro _ σ' ⟨rfl, X', H', hX', ok', hl'⟩
  exact ⟨_, _, VLe.refl _, Sub.refl _, _, rfl, ⟨im, X', tk, l, _, rfl, hX', H', ok', hSo, hok, hR, by omega, hll⟩⟩
theorem XOk.pv {X : List PX} (ok : XOk X) : ∀ x ∈ pvs X, x.Ok := fun x hx => by obtain ⟨y, hy, rfl⟩ := List.mem_map.1 hx; exact ok.ok y hy
theorem cPut2 {q : Int} {p : Pk} (M : MidB σb ib ix k (k + 1) (fun S => q = putS S p) (fun S => putV S p) G τ) (hk : k ≤ 900) (hl : p.fs.length ≤ 1000) (ht : total p.fs ≤ 1000000) (hsn : inR p.sn) :
    ACalls Try.prog i_bowlineref24_Buffer_Put [.ptr ix 0, amV p] τ fun v σ' => v = i64v q ∧ BothB σb ib ix (k + 1) G σ' := by
  obtain ⟨im, X, tk, l, S, hP, hS, H, ok, hSo, hok, hR, hX, hll⟩ := M
  have hP : q = putS S p := hP
  have hS : pvs X = putV S p := hS
  have hcode := hR.code hSo hok p
  refine acall_less (ePut (Hp.outB H) (by omega) hok hR.up p hl ht) ?_
  rintro _ σ' ⟨rfl, tk', l', H', hcase⟩
  rw [← hcode, ← hP] at hcase ⊢
  refine ⟨_, _, VLe.refl _, Sub.refl _, rfl, ?_⟩
  rcases hcase with ⟨h0, rfl⟩ | ⟨h0, A, B, hA, hB, rfl, hc⟩
  · have : putV S p = S := by unfold putV; rw [if_pos (by rw [← hP]; exact h0)]
    rw [this] at hS
    exact ⟨im, X, tk', l', S, trivial, hS, Hp.inB H', ok, hSo, hok, hR, hX, by omega⟩
  · have hr := putS_right (S := S) (p := p) (by rw [← hP]; exact h0)
    have hR2 := hR.put hSo hsn (by rw [← hP]; exact h0) hA hB hc
    have hln : (A ++ withD (pieceD l p.sn) p (endsP p) :: B).length ≤ l.length + 1 := by
      rcases hc with ⟨e, _⟩ | ⟨e, _⟩
      · have := congrArg List.length e
        rw [List.length_append] at this ⊢
        rw [List.length_cons]; omega
      · have := congrArg List.length e
        rw [List.length_append, List.length_cons] at this ⊢
        omega
    refine ⟨im, X, tk', _, _, trivial, rfl, Hp.inB H', ok, ok.pv, fun d hd => ?_, by show RelL (pvs X) _; rw [hS]; exact hR2, hX, by omega⟩
    have hAB : ∀ e, e ∈ A ∨ e ∈ B → e ∈ l := fun e he => by
      rcases hc with ⟨e1, _⟩ | ⟨e1, _⟩
      · rw [e1]; exact List.mem_append.2 he
      · rw [e1]
        rcases he with he | he
        · exact List.mem_append.2 (.inl he)
        · exact List.mem_append.2 (.inr (List.mem_cons_of_mem _ he))
    rcases List.mem_append.1 hd with hd | hd
    · exact hok d (hAB d (.inl hd))
    · rcases List.mem_cons.1 hd with rfl | hd
      · exact withD_ok (pieceD_ok hok _) hr
      · exact hok d (hAB d (.inr hd))
theorem cTake1 (M : BothB σb ib ix k G τ) (hk : k ≤ 900) (sn : Int) :
    ACalls Try.prog i_rxbuf_Buffer_Take [.ptr ib 0, i64v sn] τ fun v σ' => ∃ q : Int × List (List UInt8) × Int, v = .tup [i64v q.1, lists .none q.2.1, i64v q.2.2] ∧ MidB σb ib ix k k (fun S => q = ((takeF S sn).1, (takeF S sn).2, takeC S sn)) (fun S => takeS S sn) G σ' := by
  obtain ⟨im, X, tk, l, S, hP, hS, H, ok, hSo, hok, hR, hX, hll⟩ := M
  have hS : pvs X = S := hS
  subst hS
  refine acall_less (xTake H ok sn) ?_
  rintro _ σ' ⟨rfl, X', H', hX', ok', hl'⟩
  exact ⟨_, _, VLe.refl _, Sub.refl _, _, rfl, ⟨im, X', tk, l, _, rfl, hX', H', ok', hSo, hok, hR, by omega, hll⟩⟩
theorem takeD_len {l : List DP} (hok : ∀ d ∈ l, d.Ok) (sn : Int) : (takeDf l sn).2.length ≤ 4000 := by
  unfold takeDf
  cases h : l.find? (fun d => d.sn == sn) with
  | none => exact Nat.zero_le _
  | some d =>
    dsimp only
    split
    · have h1 := tkD_len d d.e.toNat
      have h2 := (hok d (List.mem_of_find?_eq_some h)).e
      have : (tkD d d.e.toNat).length ≤ 4000 := by omega
      exact this
    · exact Nat.zero_le _
theorem cTake2 {q : Int × List (List UInt8) × Int} {sn : Int} (M : MidB σb ib ix k k (fun S => q = ((takeF S sn).1, (takeF S sn).2, takeC S sn)) (fun S => takeS S sn) G τ) (hk : k ≤ 900) :
    ACalls Try.prog i_bowlineref24_Buffer_Take [.ptr ix 0, i64v sn] τ fun v σ' => v = .tup [i64v q.1, lists .none q.2.1, i64v q.2.2] ∧ q.2.1.length ≤ 4000 ∧ BothB σb ib ix k G σ' := by
  obtain ⟨im, X, tk, l, S, hP, hS, H, ok, hSo, hok, hR, hX, hll⟩ := M
  have hP : q = ((takeF S sn).1, (takeF S sn).2, takeC S sn) := hP
  have hS : pvs X = takeS S sn := hS
  obtain ⟨e1, e2⟩ := hR.takeC hSo hok sn
  have hlen := takeD_len hok sn
  refine acall_less (eTake (Hp.outB H) (by omega) hok sn) ?_
  rintro _ σ' ⟨rfl, tk', l', H', hcase⟩
  rw [← e1] at hcase ⊢
  rw [← e2] at hlen ⊢
  subst hP
  refine ⟨_, _, VLe.refl _, Sub.refl _, rfl, hlen, ?_⟩
  have ht : takeC S sn = 0 ↔ wholeS S sn = true := by
    unfold takeC wholeS
    cases findS S sn with
    | none => simp
    | some x => dsimp only; split <;> simp_all
  unfold takeS at hS
  rcases hcase with ⟨h0, rfl⟩ | ⟨h0, A, d, B, rfl, hd, hf, rfl⟩
  · rw [if_neg (fun g => h0 (ht.2 g))] at hS
    exact ⟨im, X, tk', l', S, trivial, hS, Hp.inB H', ok, hSo, hok, hR, hX, hll⟩
  · rw [if_pos (ht.1 h0)] at hS
    refine ⟨im, X, tk', A ++ B, _, trivial, rfl, Hp.inB H', ok, ok.pv, fun e he => hok e ?_, by show RelL (pvs X) _; rw [hS]; exact hR.drop rfl hd, hX, by simp at hll ⊢; omega⟩
    rcases List.mem_append.1 he with he | he
    · exact List.mem_append.2 (.inl he)
    · exact List.mem_append.2 (.inr (List.mem_cons_of_mem _ he))
theorem cDrop1 (M : BothB σb ib ix k G τ) (hk : k ≤ 900) (sn : Int) :
    ACalls Try.prog i_rxbuf_Buffer_Drop [.ptr ib 0, i64v sn] τ fun v σ' => ∃ q : Int, v = i64v q ∧ MidB σb ib ix k k (fun S => q = dropVc S sn) (fun S => dropV S sn) G σ' := by
  obtain ⟨im, X, tk, l, S, hP, hS, H, ok, hSo, hok, hR, hX, hll⟩ := M
  have hS : pvs X = S := hS
  subst hS
  refine acall_less (xDrop H ok sn) ?_
  rintro _ σ' ⟨rfl, X', H', hX', ok', hl'⟩
  exact ⟨_, _, VLe.refl _, Sub.refl _, _, rfl, ⟨im, X', tk, l, _, rfl, hX', H', ok', hSo, hok, hR, by omega, hll⟩⟩
theorem cDrop2 {q : Int} {sn : Int} (M : MidB σb ib ix k k (fun S => q = dropVc S sn) (fun S => dropV S sn) G τ) (hk : k ≤ 900) :
    ACalls Try.prog i_bowlineref24_Buffer_Drop [.ptr ix 0, i64v sn] τ fun v σ' => v = i64v q ∧ BothB σb ib ix k G σ' := by
  obtain ⟨im, X, tk, l, S, hP, hS, H, ok, hSo, hok, hR, hX, hll⟩ := M
  have hP : q = dropVc S sn := hP
  have hS : pvs X = dropV S sn := hS
  unfold dropVc at hP
  refine acall_less (eDrop (Hp.outB H) (by omega) sn) ?_
  rintro _ σ' ⟨rfl, tk', l', H', hcase⟩
  rcases hR.find sn with ⟨h1, h2, h3, h4⟩ | ⟨x, d, h1, h2, r, hx, hd, hxs, hds⟩
  · rw [h1, if_pos rfl] at hP
    rcases hcase with ⟨h0, rfl⟩ | ⟨A, d, B, rfl, hd, hf, rfl⟩
    · rw [h0, if_neg (by decide)]
      rw [dropV_no h3] at hS
      exact ⟨_, _, VLe.refl _, Sub.refl _, by rw [hP], ⟨im, X, tk', l', S, trivial, hS, Hp.inB H', ok, hSo, hok, hR, hX, hll⟩⟩
    · exact absurd hd (h4 d (by simp))
  · rw [h1, if_neg (by simp)] at hP
    rcases hcase with ⟨h0, rfl⟩ | ⟨A, d', B, rfl, hd', hf, rfl⟩
    · rcases findE_spec l' sn with ⟨_, q2⟩ | ⟨A', _, _, _, q2, _⟩
      · exact absurd hds (q2 d hd)
      · omega
    · rw [hf, if_pos (by omega)]
      refine ⟨_, _, VLe.refl _, Sub.refl _, by rw [hP], ⟨im, X, tk', A ++ B, _, trivial, rfl, Hp.inB H', ok, ok.pv, fun e he => hok e ?_, by show RelL (pvs X) _; rw [hS]; exact hR.drop rfl hd', hX, by simp at hll ⊢; omega⟩⟩
      rcases List.mem_append.1 he with he | he
      · exact List.mem_append.2 (.inl he)
      · exact List.mem_append.2 (.inr (List.mem_cons_of_mem _ he))
end
end Go.Proofs.Ytgobbmdbkmjlnaa
/-
  Packets that may be, and packets given back or handed on with rights to their rows.
-/
namespace Go.Proofs.Ytgobbmdbkmjlnaa
set_option linter.unusedVariables false
set_option linter.unusedSimpArgs false
open Go Go.Am

structure FldsOk (l : List (List UInt8)) (h w : Int) : Prop where
  one : 1 ≤ l.length
  most : l.length ≤ 24
  each : ∀ i, (hi : i < l.length) → 1 ≤ l[i].length ∧ (i + 1 < l.length → l[i].length ≤ 2047)
  fits : h + sizeV ((l.length : Int) - 1) w + (total l : Int) ≤ 4000
abbrev TB := Tok × List UInt8
abbrev slB (x : TB) : AVal := sl x.1 x.2
theorem RepL.tbs (κ : Ghost) : ∀ {l : List TB} {vs : List Value}, RepL κ ((l.map slB).flatMap AVal.cells) vs → RepL κ (((l.map (·.2)).map (sl .none)).flatMap AVal.cells) vs
  | [], _, h => h
  | a :: l, _, h => by
    have h : RepL κ (slB a :: (l.map slB).flatMap AVal.cells) _ := h
    cases h with
    | cons h1 h2 => exact .cons (VLe.slice _ _ _ κ _ h1) (RepL.tbs κ h2)
theorem VLe.tbs (l : List TB) (t : Tok) : VLe (.slice 1 (l.map slB) t) (lists .none (l.map (·.2))) := fun κ v h => by
  rcases h.slice_inv with ⟨⟨a, rfl⟩, hn⟩ | ⟨b, off, cap, vs, rfl, g2, g3, g4, g5, g6⟩
  · have hn : l = [] := by simpa using hn
    subst hn; exact .nil
  · refine .slice (vs := vs) (by rw [List.length_map, List.length_map, List.length_map]) g2 (fun x hx => ?_) (RepL.tbs κ g4) g5 trivial
    obtain ⟨y, _, rfl⟩ := List.mem_map.1 hx
    rfl
theorem VLe.aggA {xs ys : List AVal} (h : ∀ κ vs, RepL κ xs vs → RepL κ ys vs) : VLe (.agg xs) (.agg ys) := fun κ v k => by
  cases k with
  | agg r => exact .agg (h _ _ r)
end Go.Proofs.Ytgobbmdbkmjlnaa
/-
  What came in parts: a buffer that is nil, or that no call made.
-/
namespace Go.Proofs.Ytgobbmdbkmjlnaa
set_option linter.unusedVariables false
set_option linter.unusedSimpArgs false
set_option maxRecDepth 20000
open Go Go.Am

inductive NoBu : AHeap → AVal → Prop
  | nil {σ : AHeap} : NoBu σ (.v (.pointer none))
  | zero {σ : AHeap} (iz : Nat) : σ iz = some (.cells [.v (.map none)]) → NoBu σ (.ptr iz 0)
theorem nSortB (t : Tok) (σ : AHeap) : ACalls Try.prog 72 [.slice 1 [] t] σ fun v σ' => v = .tup [] ∧ σ' = σ := by
  rw [ACalls_def]
  intro κ w cargs hI hr
  cases hr with | cons h1 hr =>
  cases hr
  rename_i v1
  have h : ∃ p cap, v1 = .slice p 0 cap := by
    cases h1 with
    | nil => exact ⟨_, _, rfl⟩
    | slice hl _ _ _ _ _ => simp at hl; subst hl; exact ⟨_, _, rfl⟩
  obtain ⟨p, cap, rfl⟩ := h
  refine (nu_sort_none p cap w).mono ?_
  rintro e w' ⟨rfl, rfl⟩
  exact ⟨_, κ, σ, .tup [], rfl, Ghost.le.refl _, hI, .tup .nil, rfl, rfl⟩
section
variable {σ : AHeap} {a : AVal}
theorem NoBu.sub {τ : AHeap} (h : NoBu σ a) (s : Sub τ σ) : NoBu τ a := by
  cases h with
  | nil => exact .nil
  | zero iz b => exact .zero iz (s _ _ b)
theorem nbMade (h : NoBu σ a) : ACalls Try.prog i_rxbuf_Buffer_made [a] σ fun v σ' => v = boolv false ∧ σ' = σ := by
  refine k_rxbuf_Buffer_made rfl ?_
  have H := Hp.nil σ
  cases h with
  | nil =>
    (refine wX ?_)
    (repeat ((first | refine zI (by omega) ?_ | refine zE (by omega) (by omega) ?_ | refine zD (by omega) (by omega) ?_ | refine zY (by omega) ?_ | refine zN (by omega) ?_ | refine amin ?_ | refine amax ?_ | refine zU (by omega) ?_ | refine z8 (by omega) ?_ | refine zX (by omega) (by omega) ?_ | refine zR rfl ?_ | refine acellA ?_ | refine zB H b1 rfl ?_ | refine zC H b1 ?_ | (apply zL H; (· repeat first | exact .h | apply AtK.t); (· rfl)) | (apply zA H; (· repeat first | exact .h | apply AtK.t)) | (apply zS H; (· repeat first | exact .h | apply AtK.t); (· rfl); (conv => whnf); clear H; intro τ H) | rw [List.length_map]); (refine wX ?_)))
    exact aret (VLe.refl _) (Sub.refl _) ⟨rfl, rfl⟩
  | zero iz b1 =>
    (refine wX ?_)
    (repeat ((first | refine zI (by omega) ?_ | refine zE (by omega) (by omega) ?_ | refine zD (by omega) (by omega) ?_ | refine zY (by omega) ?_ | refine zN (by omega) ?_ | refine amin ?_ | refine amax ?_ | refine zU (by omega) ?_ | refine z8 (by omega) ?_ | refine zX (by omega) (by omega) ?_ | refine zR rfl ?_ | refine acellA ?_ | refine zB H b1 rfl ?_ | refine zC H b1 ?_ | (apply zL H; (· repeat first | exact .h | apply AtK.t); (· rfl)) | (apply zA H; (· repeat first | exact .h | apply AtK.t)) | (apply zS H; (· repeat first | exact .h | apply AtK.t); (· rfl); (conv => whnf); clear H; intro τ H) | rw [List.length_map]); (refine wX ?_)))
    exact aret (VLe.refl _) (Sub.refl _) ⟨rfl, rfl⟩
theorem nbFind (h : NoBu σ a) (sn : Int) : ACalls Try.prog i_rxbuf_Buffer_find [a, i64v sn] σ fun v σ' => v = .tup [.v (.pointer none), i64v 6] ∧ σ' = σ := by
  refine k_rxbuf_Buffer_find rfl ?_
  (refine wX ?_)
  refine acall (nbMade h) ?_
  rintro _ σ_ ⟨rfl, e_⟩
  obtain rfl := e_.symm
  refine ⟨?_, Ext.refl _⟩
  (refine wX ?_)
  exact aret (VLe.refl _) (Sub.refl _) ⟨rfl, rfl⟩
theorem nbDrop (h : NoBu σ a) (sn : Int) : ACalls Try.prog i_rxbuf_Buffer_Drop [a, i64v sn] σ fun v σ' => v = i64v 6 ∧ σ' = σ := by
  refine k_rxbuf_Buffer_Drop rfl ?_
  (refine wX ?_)
  refine acall (nbFind h sn) ?_
  rintro _ σ_ ⟨rfl, e_⟩
  obtain rfl := e_.symm
  refine ⟨?_, Ext.refl _⟩
  (refine wX ?_)
  exact aret (VLe.refl _) (Sub.refl _) ⟨rfl, rfl⟩
theorem nbTake (h : NoBu σ a) (sn : Int) : ACalls Try.prog i_rxbuf_Buffer_Take [a, i64v sn] σ fun v σ' => v = .tup [i64v 0, .slice 1 [] .full, i64v 6] ∧ σ' = σ := by
  refine k_rxbuf_Buffer_Take rfl ?_
  (refine wX ?_)
  refine acall (nbFind h sn) ?_
  rintro _ σ_ ⟨rfl, e_⟩
  obtain rfl := e_.symm
  refine ⟨?_, Ext.refl _⟩
  (refine wX ?_)
  exact aret (VLe.refl _) (Sub.refl _) ⟨rfl, rfl⟩
theorem nbWhole (h : NoBu σ a) (sn : Int) : ACalls Try.prog i_rxbuf_Buffer_Whole [a, i64v sn] σ fun v σ' => v = boolv false ∧ σ' = σ := by
  refine k_rxbuf_Buffer_Whole rfl ?_
  (refine wX ?_)
  refine acall (nbFind h sn) ?_
  rintro _ σ_ ⟨rfl, e_⟩
  obtain rfl := e_.symm
  refine ⟨?_, Ext.refl _⟩
  (refine wX ?_)
  exact aret (VLe.refl _) (Sub.refl _) ⟨rfl, rfl⟩
theorem nbMissing (h : NoBu σ a) (sn : Int) : ACalls Try.prog i_rxbuf_Buffer_Missing [a, i64v sn] σ fun v σ' => v = .slice 2 [] .full ∧ σ' = σ := by
  refine k_rxbuf_Buffer_Missing rfl ?_
  (refine wX ?_)
  refine acall (nbFind h sn) ?_
  rintro _ σ_ ⟨rfl, e_⟩
  obtain rfl := e_.symm
  refine ⟨?_, Ext.refl _⟩
  (refine wX ?_)
  exact aret (VLe.refl _) (Sub.refl _) ⟨rfl, rfl⟩
theorem nbNumbers (h : NoBu σ a) : ACalls Try.prog i_rxbuf_Buffer_Numbers [a] σ fun v σ' => v = .slice 1 [] .full ∧ σ' = σ := by
  refine k_rxbuf_Buffer_Numbers rfl ?_
  (refine wX ?_)
  refine acall (nbMade h) ?_
  rintro _ σ_ ⟨rfl, e_⟩
  obtain rfl := e_.symm
  refine ⟨?_, Ext.refl _⟩
  (refine wX ?_)
  refine acall (nSortB .full σ) ?_
  rintro _ σ_ ⟨rfl, e_⟩
  obtain rfl := e_.symm
  refine ⟨?_, Ext.refl _⟩
  (refine wX ?_)
  exact aret (VLe.refl _) (Sub.refl _) ⟨rfl, rfl⟩
theorem nbBytes (h : NoBu σ a) : ACalls Try.prog i_rxbuf_Buffer_Bytes [a] σ fun v σ' => v = i64v 0 ∧ σ' = σ := by
  refine k_rxbuf_Buffer_Bytes rfl ?_
  have H := Hp.nil σ
  (refine wX ?_)
  refine acall (nbNumbers h) ?_
  rintro _ σ_ ⟨rfl, e_⟩
  obtain rfl := e_.symm
  refine ⟨?_, Ext.refl _⟩
  (refine wX ?_)
  (repeat ((first | refine zI (by omega) ?_ | refine zE (by omega) (by omega) ?_ | refine zD (by omega) (by omega) ?_ | refine zY (by omega) ?_ | refine zN (by omega) ?_ | refine amin ?_ | refine amax ?_ | refine zU (by omega) ?_ | refine z8 (by omega) ?_ | refine zX (by omega) (by omega) ?_ | refine zR rfl ?_ | refine acellA ?_ | (apply zL H; (· repeat first | exact .h | apply AtK.t); (· rfl)) | (apply zA H; (· repeat first | exact .h | apply AtK.t)) | (apply zS H; (· repeat first | exact .h | apply AtK.t); (· rfl); (conv => whnf); clear H; intro τ H) | rw [List.length_map]); (refine wX ?_)))
  refine aloop (α := Unit) (fun y => [(s9, i64v 0), (s3, i64v 0)]) (fun y => σ) (fun y => True) (fun y => 0) () trivial (Sub.refl _) ?_ ?_
  · (refine wX ?_)
    (repeat' first | with_reducible exact EnvLe.refl _ | (refine EnvLe.node ?_ (by first | exact Or.inl rfl | exact Or.inr (Or.inl rfl) | exact Or.inr (Or.inr ⟨nofun, VLe.slice _ _ _⟩)) ?_))
  rintro _ _
  (refine wX ?_)
  (repeat ((first | refine zI (by omega) ?_ | refine zE (by omega) (by omega) ?_ | refine zD (by omega) (by omega) ?_ | refine zY (by omega) ?_ | refine zN (by omega) ?_ | refine amin ?_ | refine amax ?_ | refine zU (by omega) ?_ | refine z8 (by omega) ?_ | refine zX (by omega) (by omega) ?_ | refine zR rfl ?_ | refine acellA ?_ | (apply zL H; (· repeat first | exact .h | apply AtK.t); (· rfl)) | (apply zA H; (· repeat first | exact .h | apply AtK.t)) | (apply zS H; (· repeat first | exact .h | apply AtK.t); (· rfl); (conv => whnf); clear H; intro τ H) | rw [List.length_map]); (refine wX ?_)))
  exact aret (VLe.refl _) (Sub.refl _) ⟨rfl, rfl⟩
theorem nbPut (h : NoBu σ a) (cs : List AVal) (h7 : cs.length = 7) (hc : cs.all AVal.isCell = true) : ACalls Try.prog i_rxbuf_Buffer_Put [a, .agg cs] σ fun v σ' => v = i64v 6 ∧ σ' = σ := by
  obtain ⟨c0, c1, c2, c3, c4, c5, c6, rfl⟩ : ∃ c0 c1 c2 c3 c4 c5 c6, cs = [c0, c1, c2, c3, c4, c5, c6] := by
    match cs, h7 with
    | [a, b, c, d, e, f, g], _ => exact ⟨a, b, c, d, e, f, g, rfl⟩
  refine k_rxbuf_Buffer_Put rfl ?_
  (refine wX ?_)
  have H := Hp.nil σ
  refine hnew H hc ?_
  clear H
  intro i3 τ H
  (refine wX ?_)
  refine acall (nbMade (h.sub H.sub)) ?_
  rintro _ σ_ ⟨rfl, e_⟩
  obtain rfl := e_.symm
  refine ⟨?_, Ext.refl _⟩
  (refine wX ?_)
  exact aret (VLe.refl _) H.sub ⟨rfl, rfl⟩
end
end Go.Proofs.Ytgobbmdbkmjlnaa
/-
  Fields that are too much for a statement.
-/
namespace Go.Proofs.Ytgobbmdbkmjlnaa
set_option linter.unusedVariables false
set_option linter.unusedSimpArgs false
open Go Go.Am

def smallG (l : List (List UInt8)) : Prop := l.length ≤ 40 ∧ ∀ p ∈ l, p.length ≤ 4200
theorem gGreat (l : List (List UInt8)) (t : Tok) (σ : AHeap) (hl : l.length ≤ 9223372036854775807) : ACalls Try.prog i_bowlinelaw09_Great [lists t l] σ fun v σ' => (∃ g, v = boolv g ∧ (g = false → smallG l)) ∧ σ' = σ := by
  refine k_bowlinelaw09_Great rfl ?_
  (refine wX ?_)
  refine aloop (α := Nat × Nat) (fun x => [(s3, i64v x.2), (s4, i64v x.1)]) (fun _ => σ) (fun x => x.1 ≤ l.length ∧ (0 < x.1 → l.length ≤ 40) ∧ x.2 ≤ 4200 * x.1 ∧ ∀ p ∈ l.take x.1, p.length ≤ 4200) (fun x => l.length - x.1) (0, 0) ⟨Nat.zero_le _, fun h => by omega, Nat.le_refl _, by simp⟩ (Sub.refl _) ?_ ?_
  · (refine wX ?_)
    (repeat' first | with_reducible exact EnvLe.refl _ | (refine EnvLe.node ?_ (by first | exact Or.inl rfl | exact Or.inr (Or.inl rfl) | exact Or.inr (Or.inr ⟨nofun, VLe.slice _ _ _⟩)) ?_))
  rintro ⟨i, n⟩ ⟨hi, h40, hn, ha⟩
  dsimp only at hi h40 hn ha ⊢
  by_cases h : i < l.length
  · by_cases h1 : l.length > 40
    · (refine wX ?_)
      (repeat ((first | refine aload (by (repeat (first | with_reducible exact upd_same _ _ _ | assumption | rw [upd_ne _ _ (by first | assumption | (apply Ne.symm; assumption))]))) rfl ?_ | refine afit_i64 (by omega) ?_ | refine arem_nonneg (by omega) (by omega) ?_ | refine adiv_i64 (by omega) (by omega) ?_ | refine abr_yes (by omega) ?_ | refine abr_no (by omega) ?_ | refine amin ?_ | refine amax ?_ | refine afit_u64 (by omega) ?_ | refine afit_u8 (by omega) ?_ | rw [List.length_map]); (refine wX ?_)))
      exact aret_same ⟨⟨true, rfl, nofun⟩, rfl⟩
    · (refine wX ?_)
      (repeat ((first | refine aload (by (repeat (first | with_reducible exact upd_same _ _ _ | assumption | rw [upd_ne _ _ (by first | assumption | (apply Ne.symm; assumption))]))) rfl ?_ | refine afit_i64 (by omega) ?_ | refine arem_nonneg (by omega) (by omega) ?_ | refine adiv_i64 (by omega) (by omega) ?_ | refine abr_yes (by omega) ?_ | refine abr_no (by omega) ?_ | refine amin ?_ | refine amax ?_ | refine afit_u64 (by omega) ?_ | refine afit_u8 (by omega) ?_ | rw [List.length_map]); (refine wX ?_)))
      refine aget (by omega) (get_lists h) ?_
      (refine wX ?_)
      refine acell rfl ?_
      (refine wX ?_)
      rw [List.length_map]
      by_cases h2 : l[i].length > 4200
      · refine abr_yes (by omega) ?_
        (refine wX ?_)
        exact aret_same ⟨⟨true, rfl, nofun⟩, rfl⟩
      · refine abr_no (by omega) ?_
        (refine wX ?_)
        refine aget (by omega) (get_lists h) ?_
        (refine wX ?_)
        refine acell rfl ?_
        (refine wX ?_)
        (repeat ((first | refine aload (by (repeat (first | with_reducible exact upd_same _ _ _ | assumption | rw [upd_ne _ _ (by first | assumption | (apply Ne.symm; assumption))]))) rfl ?_ | refine afit_i64 (by omega) ?_ | refine arem_nonneg (by omega) (by omega) ?_ | refine adiv_i64 (by omega) (by omega) ?_ | refine abr_yes (by omega) ?_ | refine abr_no (by omega) ?_ | refine amin ?_ | refine amax ?_ | refine afit_u64 (by omega) ?_ | refine afit_u8 (by omega) ?_ | rw [List.length_map]); (refine wX ?_)))
        refine ⟨(i + 1, n + l[i].length), ⟨h, fun _ => by omega, by dsimp only; omega, ?_⟩, by dsimp only; omega, Sub.refl _, ?_⟩
        · dsimp only
          rw [List.take_add_one, List.getElem?_eq_getElem h]
          intro p hp
          rcases List.mem_append.1 hp with h | h
          · exact ha p h
          · simp at h; subst h; omega
        · rw [show (n : Int) + ((l[i].length : Nat) : Int) = ((n + l[i].length : Nat) : Int) by omega]
          (refine wX ?_)
          (repeat' first | with_reducible exact EnvLe.refl _ | (refine EnvLe.node ?_ (by first | exact Or.inl rfl | exact Or.inr (Or.inl rfl) | exact Or.inr (Or.inr ⟨nofun, VLe.slice _ _ _⟩)) ?_))
  · rw [List.take_of_length_le (by omega)] at ha
    (refine wX ?_)
    (repeat ((first | refine aload (by (repeat (first | with_reducible exact upd_same _ _ _ | assumption | rw [upd_ne _ _ (by first | assumption | (apply Ne.symm; assumption))]))) rfl ?_ | refine afit_i64 (by omega) ?_ | refine arem_nonneg (by omega) (by omega) ?_ | refine adiv_i64 (by omega) (by omega) ?_ | refine abr_yes (by omega) ?_ | refine abr_no (by omega) ?_ | refine amin ?_ | refine amax ?_ | refine afit_u64 (by omega) ?_ | refine afit_u8 (by omega) ?_ | rw [List.length_map]); (refine wX ?_)))
    refine aret_same ⟨⟨_, rfl, fun _ => ⟨?_, ha⟩⟩, rfl⟩
    by_cases h0 : l.length = 0
    · omega
    · exact h40 (by omega)
end Go.Proofs.Ytgobbmdbkmjlnaa
/-
  Statements of what came in parts: what must come of fixed calls.
-/
namespace Go.Proofs.Ytgobbmdbkmjlnaa
set_option linter.unusedVariables false
set_option linter.unusedSimpArgs false
set_option maxRecDepth 20000
open Go Go.Am

theorem pk_argsX {x a b c d e f : AVal} (l : List TB) (t : Tok) : ∀ κ vs, RepL κ [x, .agg [a, b, c, d, e, f, .slice 1 (l.map slB) t]] vs → RepL κ [x, .agg [a, b, c, d, e, f, lists .none (l.map (·.2))]] vs :=
  VLe.cons (VLe.refl _) (VLe.cons (VLe.aggA (VLe.cons (VLe.refl _) (VLe.cons (VLe.refl _) (VLe.cons (VLe.refl _) (VLe.cons (VLe.refl _) (VLe.cons (VLe.refl _) (VLe.cons (VLe.refl _) (VLe.cons (VLe.tbs _ _) VLe.nil)))))))) VLe.nil)
theorem acall_weakX {P : Program} {f : FuncId} {args args' : List AVal} {σ : AHeap} {Q : AVal → AHeap → Prop} (h : ∀ κ vs, RepL κ args vs → RepL κ args' vs) (k : ACalls P f args' σ Q) : ACalls P f args σ Q := by
  rw [ACalls_def] at k ⊢
  exact fun κ w cargs hI hr => k κ w cargs hI (h κ cargs hr)
theorem inR_ofX {n : Int} (h : -9223372036854775808 ≤ n ∧ n ≤ 9223372036854775807) : inR n := by
  have h1 : IntKind.i64.min = -9223372036854775808 := by decide
  have h2 : IntKind.i64.max = 9223372036854775807 := by decide
  simp only [inR, Lit.wf, h1, h2, Bool.and_eq_true, decide_eq_true_eq]
  exact h
theorem buNew (σ : AHeap) : ACalls Try.prog i_rxbuf_New [] σ fun v σ' => ∃ ib im, v = .ptr ib 0 ∧ Hp σ (XL ib im [] []) σ' := by
  refine k_rxbuf_New rfl ?_
  have H := Hp.nil σ
  (refine wX ?_)
  refine hnewmap H ?_
  clear H
  intro im τ H
  (refine wX ?_)
  (repeat ((first | refine zI (by omega) ?_ | refine zE (by omega) (by omega) ?_ | refine zD (by omega) (by omega) ?_ | refine zY (by omega) ?_ | refine zN (by omega) ?_ | refine amin ?_ | refine amax ?_ | refine zU (by omega) ?_ | refine z8 (by omega) ?_ | refine zX (by omega) (by omega) ?_ | refine zR rfl ?_ | refine acellA ?_ | (apply zL H; (· repeat first | exact .h | apply AtK.t); (· rfl)) | (apply zA H; (· repeat first | exact .h | apply AtK.t)) | (apply zS H; (· repeat first | exact .h | apply AtK.t); (· rfl); (conv => whnf); clear H; intro τ H) | rw [List.length_map]); (refine wX ?_)))
  refine hnew H rfl ?_
  clear H
  intro ib τ H
  (refine wX ?_)
  (repeat ((first | refine zI (by omega) ?_ | refine zE (by omega) (by omega) ?_ | refine zD (by omega) (by omega) ?_ | refine zY (by omega) ?_ | refine zN (by omega) ?_ | refine amin ?_ | refine amax ?_ | refine zU (by omega) ?_ | refine z8 (by omega) ?_ | refine zX (by omega) (by omega) ?_ | refine zR rfl ?_ | refine acellA ?_ | (apply zL H; (· repeat first | exact .h | apply AtK.t); (· rfl)) | (apply zA H; (· repeat first | exact .h | apply AtK.t)) | (apply zS H; (· repeat first | exact .h | apply AtK.t); (· rfl); (conv => whnf); clear H; intro τ H) | rw [List.length_map]); (refine wX ?_)))
  exact aret (VLe.refl _) (Sub.refl _) ⟨ib, im, rfl, H⟩
theorem XOk.nil : XOk [] := ⟨List.nodup_nil, nofun, nofun, by decide⟩
def p1_24 : Pk := ⟨false, 1, 3, true, true, 2, [[99, 100]]⟩
def p2_24 : Pk := ⟨false, 2, 3, true, false, 0, [[97, 98]]⟩
def p3_24 : Pk := ⟨false, 0, 3, true, false, 0, [[97, 98]]⟩
def p4_24 : Pk := ⟨false, 0, 0, false, false, 0, []⟩
theorem e1_24 : putS [] p1_24 = 0 := by decide +kernel
theorem e2_24 : missS (putV [] p1_24) 3 = [(0, 2)] := by decide +kernel
theorem e3_24 : putS (putV [] p1_24) p2_24 = 0 := by decide +kernel
theorem e4_24 : putS (putV (putV [] p1_24) p2_24) p3_24 = 12 := by decide +kernel
theorem e5_24 : takeC (putV (putV [] p1_24) p2_24) 3 = 0 := by decide +kernel
theorem e6_24 : takeF (putV (putV [] p1_24) p2_24) 3 = (3, [[97, 98], [99, 100]]) := by decide +kernel
theorem e7_24 : takeC (takeS (putV (putV [] p1_24) p2_24) 3) 3 = 4 := by decide +kernel
theorem e8_24 (S : List PV) : putS S p4_24 = 1 := by unfold putS putK; rw [if_pos (by decide +kernel)]
theorem putV_no {S : List PV} {p : Pk} (h : putS S p ≠ 0) : putV S p = S := by unfold putV; rw [if_pos h]
set_option maxHeartbeats 4000000 in
theorem alive24 (σ : AHeap) : ACalls Try.prog i_bowlinelaw24_alive [] σ fun v σ' => v = boolv true ∧ σ' = σ := by
  refine k_bowlinelaw24_alive rfl ?_
  (refine wX ?_)
  refine acall (buNew σ) ?_
  rintro _ τ ⟨ib, im, rfl, H⟩
  refine ⟨?_, H.ext⟩
  (refine wX ?_)
  refine arowT fun t_ ht_ => ?_
  (refine wX ?_)
  refine amark (by simp) (upd_same _ _ _) ?_
  (refine wX ?_)
  rw [del_upd _ _ _ ht_]
  clear ht_
  (refine wX ?_)
  refine acall (acall_weakX (pk_argsX [(.none, [99, 100])] .full) (xPut H XOk.nil (by decide) p1_24 (by decide) (by decide) (by decide))) ?_
  clear H
  rintro _ τ ⟨rfl, X, H, hX, ok, hl⟩
  rw [show pvs ([] : List PX) = [] from rfl] at hX ⊢
  rw [e1_24]
  (refine wX ?_)
  refine acall (xMissing H ok 3) ?_
  rintro _ σ_ ⟨rfl, e_⟩
  obtain rfl := e_.symm
  refine ⟨?_, Ext.refl _⟩
  (refine wX ?_)
  rw [hX, e2_24]
  (refine wX ?_)
  refine arowT fun t_ ht_ => ?_
  (refine wX ?_)
  refine amark (by simp) (upd_same _ _ _) ?_
  (refine wX ?_)
  rw [del_upd _ _ _ ht_]
  clear ht_
  (refine wX ?_)
  refine acall (acall_weakX (pk_argsX [(.none, [97, 98])] .full) (xPut H ok (by simp at hl; omega) p2_24 (by decide) (by decide) (by decide))) ?_
  clear H
  rintro _ τ ⟨rfl, X2, H, hX2, ok2, hl2⟩
  rw [hX] at hX2 ⊢
  rw [e3_24]
  (refine wX ?_)
  refine arowT fun t_ ht_ => ?_
  (refine wX ?_)
  refine amark (by simp) (upd_same _ _ _) ?_
  (refine wX ?_)
  rw [del_upd _ _ _ ht_]
  clear ht_
  (refine wX ?_)
  refine acall (acall_weakX (pk_argsX [(.none, [97, 98])] .full) (xPut H ok2 (by simp at hl; omega) p3_24 (by decide) (by decide) (by decide))) ?_
  clear H
  rintro _ τ ⟨rfl, X3, H, hX3, ok3, hl3⟩
  rw [hX2] at hX3 ⊢
  rw [putV_no (by rw [e4_24]; decide)] at hX3
  rw [e4_24]
  (refine wX ?_)
  refine acall (xTake H ok3 3) ?_
  clear H
  rintro _ τ ⟨rfl, X4, H, hX4, ok4, hl4⟩
  rw [hX3] at hX4 ⊢
  rw [e5_24, e6_24]
  (refine wX ?_)
  refine acall (xTake H ok4 3) ?_
  clear H
  rintro _ τ ⟨rfl, X5, H, hX5, ok5, hl5⟩
  rw [hX4, e7_24]
  (refine wX ?_)
  (repeat ((first | refine zI (by omega) ?_ | refine zE (by omega) (by omega) ?_ | refine zD (by omega) (by omega) ?_ | refine zY (by omega) ?_ | refine zN (by omega) ?_ | refine amin ?_ | refine amax ?_ | refine zU (by omega) ?_ | refine z8 (by omega) ?_ | refine zX (by omega) (by omega) ?_ | refine zR rfl ?_ | refine acellA ?_ | (apply zL H; (· repeat first | exact .h | apply AtK.t); (· rfl)) | (apply zA H; (· repeat first | exact .h | apply AtK.t)) | (apply zS H; (· repeat first | exact .h | apply AtK.t); (· rfl); (conv => whnf); clear H; intro τ H) | rw [List.length_map]); (refine wX ?_)))
  refine aget (x := spV (0, 2)) (by omega) rfl ?_
  (refine wX ?_)
  (repeat ((first | refine zI (by omega) ?_ | refine zE (by omega) (by omega) ?_ | refine zD (by omega) (by omega) ?_ | refine zY (by omega) ?_ | refine zN (by omega) ?_ | refine amin ?_ | refine amax ?_ | refine zU (by omega) ?_ | refine z8 (by omega) ?_ | refine zX (by omega) (by omega) ?_ | refine zR rfl ?_ | refine acellA ?_ | (apply zL H; (· repeat first | exact .h | apply AtK.t); (· rfl)) | (apply zA H; (· repeat first | exact .h | apply AtK.t)) | (apply zS H; (· repeat first | exact .h | apply AtK.t); (· rfl); (conv => whnf); clear H; intro τ H) | rw [List.length_map]); (refine wX ?_)))
  refine aget (x := sl .none [97, 98]) (by omega) rfl ?_
  (refine wX ?_)
  (repeat ((first | refine zI (by omega) ?_ | refine zE (by omega) (by omega) ?_ | refine zD (by omega) (by omega) ?_ | refine zY (by omega) ?_ | refine zN (by omega) ?_ | refine amin ?_ | refine amax ?_ | refine zU (by omega) ?_ | refine z8 (by omega) ?_ | refine zX (by omega) (by omega) ?_ | refine zR rfl ?_ | refine acellA ?_ | (apply zL H; (· repeat first | exact .h | apply AtK.t); (· rfl)) | (apply zA H; (· repeat first | exact .h | apply AtK.t)) | (apply zS H; (· repeat first | exact .h | apply AtK.t); (· rfl); (conv => whnf); clear H; intro τ H) | rw [List.length_map]); (refine wX ?_)))
  refine astr (bs := [97, 98]) rfl ?_
  (refine wX ?_)
  (repeat ((first | refine zI (by omega) ?_ | refine zE (by omega) (by omega) ?_ | refine zD (by omega) (by omega) ?_ | refine zY (by omega) ?_ | refine zN (by omega) ?_ | refine amin ?_ | refine amax ?_ | refine zU (by omega) ?_ | refine z8 (by omega) ?_ | refine zX (by omega) (by omega) ?_ | refine zR rfl ?_ | refine acellA ?_ | (apply zL H; (· repeat first | exact .h | apply AtK.t); (· rfl)) | (apply zA H; (· repeat first | exact .h | apply AtK.t)) | (apply zS H; (· repeat first | exact .h | apply AtK.t); (· rfl); (conv => whnf); clear H; intro τ H) | rw [List.length_map]); (refine wX ?_)))
  refine aget (x := sl .none [99, 100]) (by omega) rfl ?_
  (refine wX ?_)
  (repeat ((first | refine zI (by omega) ?_ | refine zE (by omega) (by omega) ?_ | refine zD (by omega) (by omega) ?_ | refine zY (by omega) ?_ | refine zN (by omega) ?_ | refine amin ?_ | refine amax ?_ | refine zU (by omega) ?_ | refine z8 (by omega) ?_ | refine zX (by omega) (by omega) ?_ | refine zR rfl ?_ | refine acellA ?_ | (apply zL H; (· repeat first | exact .h | apply AtK.t); (· rfl)) | (apply zA H; (· repeat first | exact .h | apply AtK.t)) | (apply zS H; (· repeat first | exact .h | apply AtK.t); (· rfl); (conv => whnf); clear H; intro τ H) | rw [List.length_map]); (refine wX ?_)))
  refine astr (bs := [99, 100]) rfl ?_
  (refine wX ?_)
  (repeat ((first | refine zI (by omega) ?_ | refine zE (by omega) (by omega) ?_ | refine zD (by omega) (by omega) ?_ | refine zY (by omega) ?_ | refine zN (by omega) ?_ | refine amin ?_ | refine amax ?_ | refine zU (by omega) ?_ | refine z8 (by omega) ?_ | refine zX (by omega) (by omega) ?_ | refine zR rfl ?_ | refine acellA ?_ | (apply zL H; (· repeat first | exact .h | apply AtK.t); (· rfl)) | (apply zA H; (· repeat first | exact .h | apply AtK.t)) | (apply zS H; (· repeat first | exact .h | apply AtK.t); (· rfl); (conv => whnf); clear H; intro τ H) | rw [List.length_map]); (refine wX ?_)))
  refine acall (acall_weakX (pk_argsX [] .full) (xPut H ok5 (by simp at hl; omega) p4_24 (by decide) (by decide) (by decide))) ?_
  clear H
  rintro _ τ ⟨rfl, X6, H, hX6, ok6, hl6⟩
  rw [e8_24]
  (refine wX ?_)
  (repeat ((first | refine zI (by omega) ?_ | refine zE (by omega) (by omega) ?_ | refine zD (by omega) (by omega) ?_ | refine zY (by omega) ?_ | refine zN (by omega) ?_ | refine amin ?_ | refine amax ?_ | refine zU (by omega) ?_ | refine z8 (by omega) ?_ | refine zX (by omega) (by omega) ?_ | refine zR rfl ?_ | refine acellA ?_ | (apply zL H; (· repeat first | exact .h | apply AtK.t); (· rfl)) | (apply zA H; (· repeat first | exact .h | apply AtK.t)) | (apply zS H; (· repeat first | exact .h | apply AtK.t); (· rfl); (conv => whnf); clear H; intro τ H) | rw [List.length_map]); (refine wX ?_)))
  exact aret (VLe.refl _) H.sub ⟨rfl, rfl⟩
end Go.Proofs.Ytgobbmdbkmjlnaa
/-
  Statement of what came in parts: whatever packets and parts come, a buffer tells what the document says.
-/
namespace Go.Proofs.Ytgobbmdbkmjlnaa
set_option linter.unusedVariables false
set_option linter.unusedSimpArgs false
set_option maxRecDepth 20000
open Go Go.Am

abbrev PkB := Bool × Int × Int × Bool × Bool × Int × List (List UInt8)
def pkB (t : PkB) : Pk := ⟨t.1, t.2.1, t.2.2.1, t.2.2.2.1, t.2.2.2.2.1, t.2.2.2.2.2.1, t.2.2.2.2.2.2⟩
abbrev OpB := Int × Int × PkB
def opCB (o : OpB) : List AVal := [i64v o.1, i64v o.2.1, boolv (pkB o.2.2).poll, i64v (pkB o.2.2).fi, i64v (pkB o.2.2).sn, boolv (pkB o.2.2).part, boolv (pkB o.2.2).last, i64v (pkB o.2.2).off, lists .none (pkB o.2.2).fs]
def opVB (o : OpB) : AVal := .agg (opCB o)
theorem get_opsB {ops : List OpB} {i : Nat} (h : i < ops.length) : (ops.map opVB)[((i : Nat) : Int).toNat]? = some (opVB ops[i]) := by
  rw [Int.toNat_natCast, List.getElem?_map, List.getElem?_eq_getElem h]; rfl
theorem small_sumB {l : List (List UInt8)} (h : smallG l) : total l ≤ 168000 := by
  have : ∀ (m : List (List UInt8)), (∀ p ∈ m, p.length ≤ 4200) → total m ≤ 4200 * m.length := by
    intro m
    induction m with
    | nil => intro _; exact Nat.le_refl _
    | cons a m ih =>
      intro hm
      have h1 := ih fun p hp => hm p (List.mem_cons_of_mem _ hp)
      have h2 := hm a (List.mem_cons_self ..)
      rw [total_cons, List.length_cons]; omega
  have := this l h.2
  have := h.1
  omega
theorem missS_len {S : List PV} (ok : ∀ x ∈ S, x.Ok) (sn : Int) : (missS S sn).length ≤ 3000 := by
  unfold missS
  cases h : findS S sn with
  | none => exact Nat.zero_le _
  | some x =>
    have hk := (ok x (List.mem_of_find?_eq_some h)).so.k
    have h1 := gapsV_len (to := x.e) (l := x.l)
    have h2 := gapsV_len (to := topL x.l) (l := x.l)
    dsimp only
    unfold missL
    split
    · omega
    · rw [List.length_append, List.length_singleton]; omega
set_option maxHeartbeats 16000000 in
theorem RxbufLives (ops : List OpB) (σ : AHeap) (hl : ops.length ≤ 140737488355328) (hb : ∀ o ∈ ops, (pkB o.2.2).fs.length ≤ 140737488355328 ∧ inR (pkB o.2.2).sn) :
    ACalls Try.prog i_bowlinelaw24_RxbufLives [.slice 9 (ops.map opVB) .none] σ fun v σ' => v = boolv true ∧ Hp σ [] σ' := by
  refine k_bowlinelaw24_RxbufLives rfl ?_
  have H := Hp.nil σ
  (refine wX ?_)
  refine acall (buNew σ) ?_
  rintro _ τ ⟨ib, im, rfl, K⟩
  refine ⟨?_, K.ext⟩
  clear H
  have H := K
  clear K
  (refine wX ?_)
  refine hnew H rfl ?_
  clear H
  intro ix τ H
  (refine wX ?_)
  (repeat ((first | refine zI (by omega) ?_ | refine zE (by omega) (by omega) ?_ | refine zD (by omega) (by omega) ?_ | refine zY (by omega) ?_ | refine zN (by omega) ?_ | refine amin ?_ | refine amax ?_ | refine zU (by omega) ?_ | refine z8 (by omega) ?_ | refine zX (by omega) (by omega) ?_ | refine zR rfl ?_ | refine acellA ?_ | refine zB H b1 rfl ?_ | refine zC H b1 ?_ | (apply zL H; (· repeat first | exact .h | apply AtK.t); (· rfl)) | (apply zA H; (· repeat first | exact .h | apply AtK.t)) | (apply zS H; (· repeat first | exact .h | apply AtK.t); (· rfl); (conv => whnf); clear H; intro τ H) | rw [List.length_map]); (refine wX ?_)))
  have M : BothB σ ib ix 0 [] τ := ⟨im, [], .full, [], [], trivial, rfl, Hp.comm [_] [_, _] H, XOk.nil, nofun, nofun, ⟨nofun, nofun, .nil, .nil⟩, Nat.zero_le _, Nat.zero_le _⟩
  clear H
  refine aloop (α := Nat × AHeap) (fun y => [(s5, i64v y.1)]) (fun y => y.2) (fun y => y.1 ≤ ops.length ∧ y.1 ≤ 60 ∧ BothB σ ib ix y.1 [] y.2) (fun y => ops.length - y.1) (0, τ) ⟨Nat.zero_le _, Nat.zero_le _, M⟩ (Sub.refl _) ?_ ?_
  · (refine wX ?_)
    (repeat' first | with_reducible exact EnvLe.refl _ | (refine EnvLe.node ?_ (by first | exact Or.inl rfl | exact Or.inr (Or.inl rfl) | exact Or.inr (Or.inr ⟨nofun, VLe.slice _ _ _⟩)) ?_))
  clear M τ
  rintro ⟨i, τ⟩ ⟨hi, hi2, M⟩
  dsimp only at hi hi2 M ⊢
  (refine wX ?_)
  rw [List.length_map]
  by_cases h : i < ops.length ∧ i < 60
  case neg =>
    have fin : Hp σ [] τ := M.heap
    have H := Hp.nil τ
    refine Or.elim (Nat.lt_or_ge i ops.length) (fun h3 => ?_) (fun h3 => ?_)
    all_goals
      (repeat ((first | refine zI (by omega) ?_ | refine zE (by omega) (by omega) ?_ | refine zD (by omega) (by omega) ?_ | refine zY (by omega) ?_ | refine zN (by omega) ?_ | refine amin ?_ | refine amax ?_ | refine zU (by omega) ?_ | refine z8 (by omega) ?_ | refine zX (by omega) (by omega) ?_ | refine zR rfl ?_ | refine acellA ?_ | refine zB H b1 rfl ?_ | refine zC H b1 ?_ | (apply zL H; (· repeat first | exact .h | apply AtK.t); (· rfl)) | (apply zA H; (· repeat first | exact .h | apply AtK.t)) | (apply zS H; (· repeat first | exact .h | apply AtK.t); (· rfl); (conv => whnf); clear H; intro τ H) | rw [List.length_map]); (refine wX ?_)))
      refine hnew H rfl ?_
      clear H
      intro iz τ H
      (refine wX ?_)
      have z := NoBu.zero iz (H.get (k := 0) rfl)
      have n0 : NoBu τ (.v (.pointer none)) := .nil
      refine acall (nbTake n0 1) ?_
      rintro _ σ_ ⟨rfl, e_⟩
      obtain rfl := e_.symm
      (refine wX ?_)
      refine acall (alive24 τ) ?_
      rintro _ σ_ ⟨rfl, e_⟩
      obtain rfl := e_.symm
      refine ⟨?_, Ext.refl _⟩
      (refine wX ?_)
      refine acall (nbPut n0 _ rfl rfl) ?_
      rintro _ σ_ ⟨rfl, e_⟩
      obtain rfl := e_.symm
      (refine wX ?_)
      refine acall (nbPut z _ rfl rfl) ?_
      rintro _ σ_ ⟨rfl, e_⟩
      obtain rfl := e_.symm
      (refine wX ?_)
      refine acall (nbDrop z 1) ?_
      rintro _ σ_ ⟨rfl, e_⟩
      obtain rfl := e_.symm
      (refine wX ?_)
      refine acall (nbWhole n0 1) ?_
      rintro _ σ_ ⟨rfl, e_⟩
      obtain rfl := e_.symm
      refine ⟨?_, Ext.refl _⟩
      (refine wX ?_)
      refine acall (nbBytes n0) ?_
      rintro _ σ_ ⟨rfl, e_⟩
      obtain rfl := e_.symm
      refine ⟨?_, Ext.refl _⟩
      (refine wX ?_)
      refine acall (nbNumbers z) ?_
      rintro _ σ_ ⟨rfl, e_⟩
      obtain rfl := e_.symm
      refine ⟨?_, Ext.refl _⟩
      (refine wX ?_)
      refine afit_i64 (by simp) ?_
      (refine wX ?_)
      refine acall (nbMissing n0 1) ?_
      rintro _ σ_ ⟨rfl, e_⟩
      obtain rfl := e_.symm
      refine ⟨?_, Ext.refl _⟩
      (refine wX ?_)
      refine afit_i64 (by simp) ?_
      (refine wX ?_)
      exact aret (VLe.refl _) (Sub.refl _) ⟨rfl, (fin.join (H.left (L := []))).left (L := [])⟩
  obtain ⟨h1, h2⟩ := h
  have H := Hp.nil τ
  (repeat ((first | refine zI (by omega) ?_ | refine zE (by omega) (by omega) ?_ | refine zD (by omega) (by omega) ?_ | refine zY (by omega) ?_ | refine zN (by omega) ?_ | refine amin ?_ | refine amax ?_ | refine zU (by omega) ?_ | refine z8 (by omega) ?_ | refine zX (by omega) (by omega) ?_ | refine zR rfl ?_ | refine acellA ?_ | refine zB H b1 rfl ?_ | refine zC H b1 ?_ | (apply zL H; (· repeat first | exact .h | apply AtK.t); (· rfl)) | (apply zA H; (· repeat first | exact .h | apply AtK.t)) | (apply zS H; (· repeat first | exact .h | apply AtK.t); (· rfl); (conv => whnf); clear H; intro τ H) | rw [List.length_map]); (refine wX ?_)))
  obtain ⟨hfl, hsn⟩ := hb _ (List.getElem_mem h1)
  refine aget (by omega) (get_opsB h1) ?_
  generalize ops[i] = o at *
  obtain ⟨kd, sn, pt⟩ := o
  dsimp only [] at hfl hsn
  unfold opVB opCB
  dsimp only []
  generalize pkB pt = p at *
  (refine wX ?_)
  (repeat ((first | refine zI (by omega) ?_ | refine zE (by omega) (by omega) ?_ | refine zD (by omega) (by omega) ?_ | refine zY (by omega) ?_ | refine zN (by omega) ?_ | refine amin ?_ | refine amax ?_ | refine zU (by omega) ?_ | refine z8 (by omega) ?_ | refine zX (by omega) (by omega) ?_ | refine zR rfl ?_ | refine acellA ?_ | refine zB H b1 rfl ?_ | refine zC H b1 ?_ | (apply zL H; (· repeat first | exact .h | apply AtK.t); (· rfl)) | (apply zA H; (· repeat first | exact .h | apply AtK.t)) | (apply zS H; (· repeat first | exact .h | apply AtK.t); (· rfl); (conv => whnf); clear H; intro τ H) | rw [List.length_map]); (refine wX ?_)))
  refine hnew H rfl ?_
  clear H
  intro io τ H
  (refine wX ?_)
  (repeat ((first | refine zI (by omega) ?_ | refine zE (by omega) (by omega) ?_ | refine zD (by omega) (by omega) ?_ | refine zY (by omega) ?_ | refine zN (by omega) ?_ | refine amin ?_ | refine amax ?_ | refine zU (by omega) ?_ | refine z8 (by omega) ?_ | refine zX (by omega) (by omega) ?_ | refine zR rfl ?_ | refine acellA ?_ | refine zB H b1 rfl ?_ | refine zC H b1 ?_ | (apply zL H; (· repeat first | exact .h | apply AtK.t); (· rfl)) | (apply zA H; (· repeat first | exact .h | apply AtK.t)) | (apply zS H; (· repeat first | exact .h | apply AtK.t); (· rfl); (conv => whnf); clear H; intro τ H) | rw [List.length_map]); (refine wX ?_)))
  refine acall (gGreat p.fs .none τ (by omega)) ?_
  rintro _ σ_ ⟨⟨gr, rfl, hgr⟩, e_⟩
  obtain rfl := e_.symm
  refine ⟨?_, Ext.refl _⟩
  cases gr
  case true =>
    (refine wX ?_)
    (repeat ((first | refine zI (by omega) ?_ | refine zE (by omega) (by omega) ?_ | refine zD (by omega) (by omega) ?_ | refine zY (by omega) ?_ | refine zN (by omega) ?_ | refine amin ?_ | refine amax ?_ | refine zU (by omega) ?_ | refine z8 (by omega) ?_ | refine zX (by omega) (by omega) ?_ | refine zR rfl ?_ | refine acellA ?_ | refine zB H b1 rfl ?_ | refine zC H b1 ?_ | (apply zL H; (· repeat first | exact .h | apply AtK.t); (· rfl)) | (apply zA H; (· repeat first | exact .h | apply AtK.t)) | (apply zS H; (· repeat first | exact .h | apply AtK.t); (· rfl); (conv => whnf); clear H; intro τ H) | rw [List.length_map]); (refine wX ?_)))
    refine acall (alive24 τ) ?_
    rintro _ σ_ ⟨rfl, e_⟩
    obtain rfl := e_.symm
    refine ⟨?_, Ext.refl _⟩
    (refine wX ?_)
    exact aret (VLe.refl _) (Sub.refl _) ⟨rfl, (M.push H).heap⟩
  have hsm := hgr rfl
  have h40 := hsm.1
  have hto := small_sumB hsm
  replace M := M.push H
  have b1 := M.at_
  clear H
  have H := Hp.nil τ
  (refine wX ?_)
  (repeat ((first | refine zI (by omega) ?_ | refine zE (by omega) (by omega) ?_ | refine zD (by omega) (by omega) ?_ | refine zY (by omega) ?_ | refine zN (by omega) ?_ | refine amin ?_ | refine amax ?_ | refine zU (by omega) ?_ | refine z8 (by omega) ?_ | refine zX (by omega) (by omega) ?_ | refine zR rfl ?_ | refine acellA ?_ | refine zB H b1 rfl ?_ | refine zC H b1 ?_ | (apply zL H; (· repeat first | exact .h | apply AtK.t); (· rfl)) | (apply zA H; (· repeat first | exact .h | apply AtK.t)) | (apply zS H; (· repeat first | exact .h | apply AtK.t); (· rfl); (conv => whnf); clear H; intro τ H) | rw [List.length_map]); (refine wX ?_)))
  by_cases c0 : kd = 0
  case' pos =>
    (repeat ((first | refine zI (by omega) ?_ | refine zE (by omega) (by omega) ?_ | refine zD (by omega) (by omega) ?_ | refine zY (by omega) ?_ | refine zN (by omega) ?_ | refine amin ?_ | refine amax ?_ | refine zU (by omega) ?_ | refine z8 (by omega) ?_ | refine zX (by omega) (by omega) ?_ | refine zR rfl ?_ | refine acellA ?_ | refine zB H b1 rfl ?_ | refine zC H b1 ?_ | (apply zL H; (· repeat first | exact .h | apply AtK.t); (· rfl)) | (apply zA H; (· repeat first | exact .h | apply AtK.t)) | (apply zS H; (· repeat first | exact .h | apply AtK.t); (· rfl); (conv => whnf); clear H; intro τ H) | rw [List.length_map]); (refine wX ?_)))
    repeat' (first
      | ((with_reducible refine And.intro ?_ ?_) <;> (refine wX ?_))
      | (refine zB H b1 rfl ?_; (refine wX ?_))
      | (refine zC H b1 ?_; (refine wX ?_))
      | (refine acall (cPut1 M (by omega) p (by omega) (by omega) hsn) ?_; clear M b1 H; rintro _ τ ⟨q, rfl, M⟩; have b1 := M.at_; have H := Hp.nil τ; (refine wX ?_))
      | (refine acall (As10 p τ) ?_; rintro _ σ_ ⟨rfl, e_⟩; obtain rfl := e_.symm; refine ⟨?_, Ext.refl _⟩; (refine wX ?_))
      | (refine acall (cPut2 M (by omega) (by omega) (by omega) hsn) ?_; clear M b1 H; rintro _ τ ⟨rfl, M⟩; have H := Hp.nil τ; (refine wX ?_); rw [show decide (q = q) = true from decide_eq_true rfl]; (refine wX ?_); generalize p.sn = m))
  case' neg =>
    by_cases c1 : kd = 1
    case' pos =>
      (repeat ((first | refine zI (by omega) ?_ | refine zE (by omega) (by omega) ?_ | refine zD (by omega) (by omega) ?_ | refine zY (by omega) ?_ | refine zN (by omega) ?_ | refine amin ?_ | refine amax ?_ | refine zU (by omega) ?_ | refine z8 (by omega) ?_ | refine zX (by omega) (by omega) ?_ | refine zR rfl ?_ | refine acellA ?_ | refine zB H b1 rfl ?_ | refine zC H b1 ?_ | (apply zL H; (· repeat first | exact .h | apply AtK.t); (· rfl)) | (apply zA H; (· repeat first | exact .h | apply AtK.t)) | (apply zS H; (· repeat first | exact .h | apply AtK.t); (· rfl); (conv => whnf); clear H; intro τ H) | rw [List.length_map]); (refine wX ?_)))
      refine acall (cTake1 M (by omega) sn) ?_
      clear M b1 H
      rintro _ τ ⟨⟨q1, q2, q3⟩, rfl, M⟩
      have b1 := M.at_
      have H := Hp.nil τ
      dsimp only
      (refine wX ?_)
      (repeat ((first | refine zI (by omega) ?_ | refine zE (by omega) (by omega) ?_ | refine zD (by omega) (by omega) ?_ | refine zY (by omega) ?_ | refine zN (by omega) ?_ | refine amin ?_ | refine amax ?_ | refine zU (by omega) ?_ | refine z8 (by omega) ?_ | refine zX (by omega) (by omega) ?_ | refine zR rfl ?_ | refine acellA ?_ | refine zB H b1 rfl ?_ | refine zC H b1 ?_ | (apply zL H; (· repeat first | exact .h | apply AtK.t); (· rfl)) | (apply zA H; (· repeat first | exact .h | apply AtK.t)) | (apply zS H; (· repeat first | exact .h | apply AtK.t); (· rfl); (conv => whnf); clear H; intro τ H) | rw [List.length_map]); (refine wX ?_)))
      refine acall (cTake2 M (by omega)) ?_
      clear M b1 H
      rintro _ τ ⟨rfl, hq2, M⟩
      replace M := MidB.more M (Nat.le_succ i)
      have H := Hp.nil τ
      dsimp only at hq2 ⊢
      (refine wX ?_)
      (repeat ((first | refine zI (by omega) ?_ | refine zE (by omega) (by omega) ?_ | refine zD (by omega) (by omega) ?_ | refine zY (by omega) ?_ | refine zN (by omega) ?_ | refine amin ?_ | refine amax ?_ | refine zU (by omega) ?_ | refine z8 (by omega) ?_ | refine zX (by omega) (by omega) ?_ | refine zR rfl ?_ | refine acellA ?_ | refine zB H b1 rfl ?_ | refine zC H b1 ?_ | (apply zL H; (· repeat first | exact .h | apply AtK.t); (· rfl)) | (apply zA H; (· repeat first | exact .h | apply AtK.t)) | (apply zS H; (· repeat first | exact .h | apply AtK.t); (· rfl); (conv => whnf); clear H; intro τ H) | rw [List.length_map]); (refine wX ?_)))
      rw [show decide (q1 = q1) = true from decide_eq_true rfl]
      (refine wX ?_)
      refine acall (refSameF q2 q2 .none .none τ (by omega)) ?_
      rintro _ σ_ ⟨rfl, e_⟩
      obtain rfl := e_.symm
      refine ⟨?_, Ext.refl _⟩
      (refine wX ?_)
      rw [show decide (q2 = q2) = true from decide_eq_true rfl]
      (refine wX ?_)
      rw [show decide (q3 = q3) = true from decide_eq_true rfl]
      (refine wX ?_)
      generalize sn = m
    case' neg =>
      by_cases c2 : kd = 2
      case' pos =>
        (repeat ((first | refine zI (by omega) ?_ | refine zE (by omega) (by omega) ?_ | refine zD (by omega) (by omega) ?_ | refine zY (by omega) ?_ | refine zN (by omega) ?_ | refine amin ?_ | refine amax ?_ | refine zU (by omega) ?_ | refine z8 (by omega) ?_ | refine zX (by omega) (by omega) ?_ | refine zR rfl ?_ | refine acellA ?_ | refine zB H b1 rfl ?_ | refine zC H b1 ?_ | (apply zL H; (· repeat first | exact .h | apply AtK.t); (· rfl)) | (apply zA H; (· repeat first | exact .h | apply AtK.t)) | (apply zS H; (· repeat first | exact .h | apply AtK.t); (· rfl); (conv => whnf); clear H; intro τ H) | rw [List.length_map]); (refine wX ?_)))
        refine acall (cDrop1 M (by omega) sn) ?_
        clear M b1 H
        rintro _ τ ⟨q, rfl, M⟩
        have b1 := M.at_
        have H := Hp.nil τ
        (refine wX ?_)
        (repeat ((first | refine zI (by omega) ?_ | refine zE (by omega) (by omega) ?_ | refine zD (by omega) (by omega) ?_ | refine zY (by omega) ?_ | refine zN (by omega) ?_ | refine amin ?_ | refine amax ?_ | refine zU (by omega) ?_ | refine z8 (by omega) ?_ | refine zX (by omega) (by omega) ?_ | refine zR rfl ?_ | refine acellA ?_ | refine zB H b1 rfl ?_ | refine zC H b1 ?_ | (apply zL H; (· repeat first | exact .h | apply AtK.t); (· rfl)) | (apply zA H; (· repeat first | exact .h | apply AtK.t)) | (apply zS H; (· repeat first | exact .h | apply AtK.t); (· rfl); (conv => whnf); clear H; intro τ H) | rw [List.length_map]); (refine wX ?_)))
        refine acall (cDrop2 M (by omega)) ?_
        clear M b1 H
        rintro _ τ ⟨rfl, M⟩
        replace M := MidB.more M (Nat.le_succ i)
        have H := Hp.nil τ
        (refine wX ?_)
        rw [show decide (q = q) = true from decide_eq_true rfl]
        (refine wX ?_)
        generalize sn = m
      case' neg =>
        (repeat ((first | refine zI (by omega) ?_ | refine zE (by omega) (by omega) ?_ | refine zD (by omega) (by omega) ?_ | refine zY (by omega) ?_ | refine zN (by omega) ?_ | refine amin ?_ | refine amax ?_ | refine zU (by omega) ?_ | refine z8 (by omega) ?_ | refine zX (by omega) (by omega) ?_ | refine zR rfl ?_ | refine acellA ?_ | refine zB H b1 rfl ?_ | refine zC H b1 ?_ | (apply zL H; (· repeat first | exact .h | apply AtK.t); (· rfl)) | (apply zA H; (· repeat first | exact .h | apply AtK.t)) | (apply zS H; (· repeat first | exact .h | apply AtK.t); (· rfl); (conv => whnf); clear H; intro τ H) | rw [List.length_map]); (refine wX ?_)))
        replace M := MidB.more M (Nat.le_succ i)
        generalize sn = m
  all_goals
    clear H
    obtain ⟨im, X, tk, l, S, -, hS, HX, ok, hSo, hok, hR, hX, hll⟩ := M
    have hS : pvs X = S := hS
    subst hS
    have b1 : τ ix = some (.cells (dbC tk l)) := HX.ok (.o ix (.cells (dbC tk l))) (by simp)
    have H := Hp.nil τ
    have hmiss := hR.miss hSo hok m
    have hmlen := missS_len hSo m
    have hw := hR.whole hSo hok m
    have hdb : ∀ d ∈ l, d.B.length ≤ 65536 ∧ d.e ≤ 100000 := fun d hd => by
      have h1 := (hok d hd).bl
      have h2 := (hok d hd).e
      exact ⟨by omega, by omega⟩
    (repeat ((first | refine zI (by omega) ?_ | refine zE (by omega) (by omega) ?_ | refine zD (by omega) (by omega) ?_ | refine zY (by omega) ?_ | refine zN (by omega) ?_ | refine amin ?_ | refine amax ?_ | refine zU (by omega) ?_ | refine z8 (by omega) ?_ | refine zX (by omega) (by omega) ?_ | refine zR rfl ?_ | refine acellA ?_ | refine zB H b1 rfl ?_ | refine zC H b1 ?_ | (apply zL H; (· repeat first | exact .h | apply AtK.t); (· rfl)) | (apply zA H; (· repeat first | exact .h | apply AtK.t)) | (apply zS H; (· repeat first | exact .h | apply AtK.t); (· rfl); (conv => whnf); clear H; intro τ H) | rw [List.length_map]); (refine wX ?_)))
    refine acall (eFind b1 (by omega) m) ?_
    rintro _ σ_ ⟨rfl, e_⟩
    obtain rfl := e_.symm
    refine ⟨?_, Ext.refl _⟩
    (refine wX ?_)
    refine acall (xNumbers HX ok) ?_
    rintro _ σ_ ⟨rfl, e_⟩
    obtain rfl := e_.symm
    refine ⟨?_, Ext.refl _⟩
    (refine wX ?_)
    rw [hR.nums]
    (refine wX ?_)
    refine acall (xBytes HX ok) ?_
    rintro _ σ_ ⟨rfl, e_⟩
    obtain rfl := e_.symm
    refine ⟨?_, Ext.refl _⟩
    (refine wX ?_)
    refine acall (eBytes b1 (by omega) (fun d hd => (hdb d hd).1)) ?_
    rintro _ σ_ ⟨rfl, e_⟩
    obtain rfl := e_.symm
    refine ⟨?_, Ext.refl _⟩
    (refine wX ?_)
    rw [hR.bytes hSo]
    (repeat ((first | refine zI (by omega) ?_ | refine zE (by omega) (by omega) ?_ | refine zD (by omega) (by omega) ?_ | refine zY (by omega) ?_ | refine zN (by omega) ?_ | refine amin ?_ | refine amax ?_ | refine zU (by omega) ?_ | refine z8 (by omega) ?_ | refine zX (by omega) (by omega) ?_ | refine zR rfl ?_ | refine acellA ?_ | refine zB H b1 rfl ?_ | refine zC H b1 ?_ | (apply zL H; (· repeat first | exact .h | apply AtK.t); (· rfl)) | (apply zA H; (· repeat first | exact .h | apply AtK.t)) | (apply zS H; (· repeat first | exact .h | apply AtK.t); (· rfl); (conv => whnf); clear H; intro τ H) | rw [List.length_map]); (refine wX ?_)))
    refine acall (xWhole HX ok m) ?_
    rintro _ σ_ ⟨rfl, e_⟩
    obtain rfl := e_.symm
    refine ⟨?_, Ext.refl _⟩
    (refine wX ?_)
    rcases find_at l m with ⟨f1, f2⟩ | ⟨j, hj, f1, f2⟩
    case' inl =>
      rw [f2] at hw
      rw [show wholeS (pvs X) m = false from hw]
      (repeat ((first | refine zI (by omega) ?_ | refine zE (by omega) (by omega) ?_ | refine zD (by omega) (by omega) ?_ | refine zY (by omega) ?_ | refine zN (by omega) ?_ | refine amin ?_ | refine amax ?_ | refine zU (by omega) ?_ | refine z8 (by omega) ?_ | refine zX (by omega) (by omega) ?_ | refine zR rfl ?_ | refine acellA ?_ | refine zB H b1 rfl ?_ | refine zC H b1 ?_ | (apply zL H; (· repeat first | exact .h | apply AtK.t); (· rfl)) | (apply zA H; (· repeat first | exact .h | apply AtK.t)) | (apply zS H; (· repeat first | exact .h | apply AtK.t); (· rfl); (conv => whnf); clear H; intro τ H) | rw [List.length_map]); (refine wX ?_)))
    case' inr =>
      rw [f2] at hw
      rw [show wholeS (pvs X) m = wholeD l[j] from hw]
      (repeat ((first | refine zI (by omega) ?_ | refine zE (by omega) (by omega) ?_ | refine zD (by omega) (by omega) ?_ | refine zY (by omega) ?_ | refine zN (by omega) ?_ | refine amin ?_ | refine amax ?_ | refine zU (by omega) ?_ | refine z8 (by omega) ?_ | refine zX (by omega) (by omega) ?_ | refine zR rfl ?_ | refine acellA ?_ | refine zB H b1 rfl ?_ | refine zC H b1 ?_ | (apply zL H; (· repeat first | exact .h | apply AtK.t); (· rfl)) | (apply zA H; (· repeat first | exact .h | apply AtK.t)) | (apply zS H; (· repeat first | exact .h | apply AtK.t); (· rfl); (conv => whnf); clear H; intro τ H) | rw [List.length_map]); (refine wX ?_)))
      refine aget (by omega) (x := dpV .none l[j]) (by rw [f1]; exact get_dp hj) ?_
      (refine wX ?_)
      (repeat ((first | refine zI (by omega) ?_ | refine zE (by omega) (by omega) ?_ | refine zD (by omega) (by omega) ?_ | refine zY (by omega) ?_ | refine zN (by omega) ?_ | refine amin ?_ | refine amax ?_ | refine zU (by omega) ?_ | refine z8 (by omega) ?_ | refine zX (by omega) (by omega) ?_ | refine zR rfl ?_ | refine acellA ?_ | refine zB H b1 rfl ?_ | refine zC H b1 ?_ | (apply zL H; (· repeat first | exact .h | apply AtK.t); (· rfl)) | (apply zA H; (· repeat first | exact .h | apply AtK.t)) | (apply zS H; (· repeat first | exact .h | apply AtK.t); (· rfl); (conv => whnf); clear H; intro τ H) | rw [List.length_map]); (refine wX ?_)))
      refine acall (eWholeD .none l[j] τ (hdb _ (List.getElem_mem hj)).1 (hdb _ (List.getElem_mem hj)).2) ?_
      rintro _ σ_ ⟨rfl, e_⟩
      obtain rfl := e_.symm
      refine ⟨?_, Ext.refl _⟩
      (refine wX ?_)
      rcases (show wholeD l[j] = false ∨ wholeD l[j] = true by cases wholeD l[j] <;> simp) with hb | hb
      all_goals
        rw [hb]
        (refine wX ?_)
  all_goals
    (repeat ((first | refine zI (by omega) ?_ | refine zE (by omega) (by omega) ?_ | refine zD (by omega) (by omega) ?_ | refine zY (by omega) ?_ | refine zN (by omega) ?_ | refine amin ?_ | refine amax ?_ | refine zU (by omega) ?_ | refine z8 (by omega) ?_ | refine zX (by omega) (by omega) ?_ | refine zR rfl ?_ | refine acellA ?_ | refine zB H b1 rfl ?_ | refine zC H b1 ?_ | (apply zL H; (· repeat first | exact .h | apply AtK.t); (· rfl)) | (apply zA H; (· repeat first | exact .h | apply AtK.t)) | (apply zS H; (· repeat first | exact .h | apply AtK.t); (· rfl); (conv => whnf); clear H; intro τ H) | rw [List.length_map]); (refine wX ?_)))
    refine acall (xMissing HX ok m) ?_
    rintro _ σ_ ⟨rfl, e_⟩
    obtain rfl := e_.symm
    refine ⟨?_, Ext.refl _⟩
    (refine wX ?_)
    refine acall (lAs .none (by omega)) ?_
    rintro _ σ_ ⟨rfl, e_⟩
    obtain rfl := e_.symm
    refine ⟨?_, Ext.refl _⟩
    (refine wX ?_)
    refine acall (eMissing b1 (by omega) hdb m) ?_
    rintro v2 τ2 ⟨E2, hE2, N2⟩
    refine ⟨?_, N2.ext⟩
    (refine wX ?_)
    refine acall (rSame03 hE2 N2 (by omega)) ?_
    rintro _ σ_ ⟨rfl, e_⟩
    obtain rfl := e_.symm
    refine ⟨?_, Ext.refl _⟩
    (refine wX ?_)
    rw [decide_eq_true hmiss]
    replace HX := HX.more N2.sub
    clear H b1
    have b1 : τ2 ix = some (.cells (dbC tk l)) := HX.ok (.o ix (.cells (dbC tk l))) (by simp)
    have H := Hp.nil τ2
    (refine wX ?_)
    (repeat ((first | refine zI (by omega) ?_ | refine zE (by omega) (by omega) ?_ | refine zD (by omega) (by omega) ?_ | refine zY (by omega) ?_ | refine zN (by omega) ?_ | refine amin ?_ | refine amax ?_ | refine zU (by omega) ?_ | refine z8 (by omega) ?_ | refine zX (by omega) (by omega) ?_ | refine zR rfl ?_ | refine acellA ?_ | refine zB H b1 rfl ?_ | refine zC H b1 ?_ | (apply zL H; (· repeat first | exact .h | apply AtK.t); (· rfl)) | (apply zA H; (· repeat first | exact .h | apply AtK.t)) | (apply zS H; (· repeat first | exact .h | apply AtK.t); (· rfl); (conv => whnf); clear H; intro τ H) | rw [List.length_map]); (refine wX ?_)))
    refine aloop (α := Nat) (fun j => [(s17, i64v j)]) (fun _ => τ2) (fun j => j ≤ l.length) (fun j => l.length - j) 0 (Nat.zero_le _) (Sub.refl _) ?_ ?_
    · (refine wX ?_)
      (repeat' first | with_reducible exact EnvLe.refl _ | (refine EnvLe.node ?_ (by first | exact Or.inl rfl | exact Or.inr (Or.inl rfl) | exact Or.inr (Or.inr ⟨nofun, VLe.slice _ _ _⟩)) ?_))
    intro j hj
    (refine wX ?_)
    rw [List.length_map, List.length_map]
    by_cases hjl : j < l.length
    · (repeat ((first | refine zI (by omega) ?_ | refine zE (by omega) (by omega) ?_ | refine zD (by omega) (by omega) ?_ | refine zY (by omega) ?_ | refine zN (by omega) ?_ | refine amin ?_ | refine amax ?_ | refine zU (by omega) ?_ | refine z8 (by omega) ?_ | refine zX (by omega) (by omega) ?_ | refine zR rfl ?_ | refine acellA ?_ | refine zB H b1 rfl ?_ | refine zC H b1 ?_ | (apply zL H; (· repeat first | exact .h | apply AtK.t); (· rfl)) | (apply zA H; (· repeat first | exact .h | apply AtK.t)) | (apply zS H; (· repeat first | exact .h | apply AtK.t); (· rfl); (conv => whnf); clear H; intro τ H) | rw [List.length_map]); (refine wX ?_)))
      refine aget (by omega) (x := i64v l[j].sn) (by rw [Int.toNat_natCast, List.getElem?_map, List.getElem?_map, List.getElem?_eq_getElem hjl]; rfl) ?_
      (refine wX ?_)
      refine acell rfl ?_
      (refine wX ?_)
      (repeat ((first | refine zI (by omega) ?_ | refine zE (by omega) (by omega) ?_ | refine zD (by omega) (by omega) ?_ | refine zY (by omega) ?_ | refine zN (by omega) ?_ | refine amin ?_ | refine amax ?_ | refine zU (by omega) ?_ | refine z8 (by omega) ?_ | refine zX (by omega) (by omega) ?_ | refine zR rfl ?_ | refine acellA ?_ | refine zB H b1 rfl ?_ | refine zC H b1 ?_ | (apply zL H; (· repeat first | exact .h | apply AtK.t); (· rfl)) | (apply zA H; (· repeat first | exact .h | apply AtK.t)) | (apply zS H; (· repeat first | exact .h | apply AtK.t); (· rfl); (conv => whnf); clear H; intro τ H) | rw [List.length_map]); (refine wX ?_)))
      refine aget (by omega) (get_dp hjl) ?_
      (refine wX ?_)
      refine acell rfl ?_
      (refine wX ?_)
      (repeat ((first | refine zI (by omega) ?_ | refine zE (by omega) (by omega) ?_ | refine zD (by omega) (by omega) ?_ | refine zY (by omega) ?_ | refine zN (by omega) ?_ | refine amin ?_ | refine amax ?_ | refine zU (by omega) ?_ | refine z8 (by omega) ?_ | refine zX (by omega) (by omega) ?_ | refine zR rfl ?_ | refine acellA ?_ | refine zB H b1 rfl ?_ | refine zC H b1 ?_ | (apply zL H; (· repeat first | exact .h | apply AtK.t); (· rfl)) | (apply zA H; (· repeat first | exact .h | apply AtK.t)) | (apply zS H; (· repeat first | exact .h | apply AtK.t); (· rfl); (conv => whnf); clear H; intro τ H) | rw [List.length_map]); (refine wX ?_)))
      refine ⟨j + 1, hjl, by omega, Sub.refl _, ?_⟩
      (refine wX ?_)
      (repeat' first | with_reducible exact EnvLe.refl _ | (refine EnvLe.node ?_ (by first | exact Or.inl rfl | exact Or.inr (Or.inl rfl) | exact Or.inr (Or.inr ⟨nofun, VLe.slice _ _ _⟩)) ?_))
    · (repeat ((first | refine zI (by omega) ?_ | refine zE (by omega) (by omega) ?_ | refine zD (by omega) (by omega) ?_ | refine zY (by omega) ?_ | refine zN (by omega) ?_ | refine amin ?_ | refine amax ?_ | refine zU (by omega) ?_ | refine z8 (by omega) ?_ | refine zX (by omega) (by omega) ?_ | refine zR rfl ?_ | refine acellA ?_ | refine zB H b1 rfl ?_ | refine zC H b1 ?_ | (apply zL H; (· repeat first | exact .h | apply AtK.t); (· rfl)) | (apply zA H; (· repeat first | exact .h | apply AtK.t)) | (apply zS H; (· repeat first | exact .h | apply AtK.t); (· rfl); (conv => whnf); clear H; intro τ H) | rw [List.length_map]); (refine wX ?_)))
      refine ⟨(i + 1, τ2), ⟨by dsimp only; omega, by dsimp only; omega, MidB.pop (E := [_]) ⟨im, X, tk, l, _, trivial, rfl, HX, ok, hSo, hok, hR, hX, hll⟩⟩, by dsimp only; omega, Sub.refl _, ?_⟩
      (refine wX ?_)
      (repeat' first | with_reducible exact EnvLe.refl _ | (refine EnvLe.node ?_ (by first | exact Or.inl rfl | exact Or.inr (Or.inl rfl) | exact Or.inr (Or.inr ⟨nofun, VLe.slice _ _ _⟩)) ?_))
end Go.Proofs.Ytgobbmdbkmjlnaa
