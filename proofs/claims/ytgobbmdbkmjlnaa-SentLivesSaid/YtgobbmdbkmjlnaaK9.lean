/-
  Texts of this claim, pack 9: Csxb, Claw19d, Csxc, Csxd, Cgreat, Claw19a, Claw19b, Claw19e.
-/
import Derived.Test.YtgobbmdbkmjlnaaK4
import Derived.Test.YtgobbmdbkmjlnaaK5
import Derived.Test.YtgobbmdbkmjlnaaK6
import Derived.Test.YtgobbmdbkmjlnaaK8
/-
  What is kept to be sent again: a store tells what the document's does.
-/
namespace Go.Proofs.Ytgobbmdbkmjlnaa
set_option linter.unusedVariables false
set_option linter.unusedSimpArgs false
set_option maxRecDepth 20000
open Go Go.Am

theorem sameI (a : List Int) (t u : Tok) (σ : AHeap) (hl : a.length ≤ 1000000) : ACalls Try.prog i_bowlinelaw19_same [ints t a, ints u a] σ fun v σ' => v = boolv true ∧ σ' = σ := by
  refine k_bowlinelaw19_same rfl ?_
  have H := Hp.nil σ
  (refine wX ?_)
  rw [List.length_map]
  (repeat ((first | refine zI (by omega) ?_ | refine zE (by omega) (by omega) ?_ | refine zD (by omega) (by omega) ?_ | refine zY (by omega) ?_ | refine zN (by omega) ?_ | refine amin ?_ | refine amax ?_ | refine zU (by omega) ?_ | refine z8 (by omega) ?_ | refine zX (by omega) (by omega) ?_ | refine zR rfl ?_ | refine acellA ?_ | (apply zL H; (· repeat first | exact .h | apply AtK.t); (· rfl)) | (apply zA H; (· repeat first | exact .h | apply AtK.t)) | (apply zS H; (· repeat first | exact .h | apply AtK.t); (· rfl); (conv => whnf); clear H; intro τ H) | rw [List.length_map]); (refine wX ?_)))
  refine aloop (α := Nat) (fun i => [(s5, i64v i)]) (fun _ => σ) (fun i => i ≤ a.length) (fun i => a.length - i) 0 (Nat.zero_le _) (Sub.refl _) ?_ ?_
  · (refine wX ?_)
    (repeat' first | with_reducible exact EnvLe.refl _ | (refine EnvLe.node ?_ (by first | exact Or.inl rfl | exact Or.inr (Or.inl rfl) | exact Or.inr (Or.inr ⟨nofun, VLe.slice _ _ _⟩)) ?_))
  intro i hi
  (refine wX ?_)
  (repeat ((first | refine zI (by omega) ?_ | refine zE (by omega) (by omega) ?_ | refine zD (by omega) (by omega) ?_ | refine zY (by omega) ?_ | refine zN (by omega) ?_ | refine amin ?_ | refine amax ?_ | refine zU (by omega) ?_ | refine z8 (by omega) ?_ | refine zX (by omega) (by omega) ?_ | refine zR rfl ?_ | refine acellA ?_ | (apply zL H; (· repeat first | exact .h | apply AtK.t); (· rfl)) | (apply zA H; (· repeat first | exact .h | apply AtK.t)) | (apply zS H; (· repeat first | exact .h | apply AtK.t); (· rfl); (conv => whnf); clear H; intro τ H) | rw [List.length_map]); (refine wX ?_)))
  by_cases h : i < a.length
  · (repeat ((first | refine zI (by omega) ?_ | refine zE (by omega) (by omega) ?_ | refine zD (by omega) (by omega) ?_ | refine zY (by omega) ?_ | refine zN (by omega) ?_ | refine amin ?_ | refine amax ?_ | refine zU (by omega) ?_ | refine z8 (by omega) ?_ | refine zX (by omega) (by omega) ?_ | refine zR rfl ?_ | refine acellA ?_ | (apply zL H; (· repeat first | exact .h | apply AtK.t); (· rfl)) | (apply zA H; (· repeat first | exact .h | apply AtK.t)) | (apply zS H; (· repeat first | exact .h | apply AtK.t); (· rfl); (conv => whnf); clear H; intro τ H) | rw [List.length_map]); (refine wX ?_)))
    refine aget (by omega) (get_ints' h) ?_
    (refine wX ?_)
    refine acell rfl ?_
    (refine wX ?_)
    (repeat ((first | refine zI (by omega) ?_ | refine zE (by omega) (by omega) ?_ | refine zD (by omega) (by omega) ?_ | refine zY (by omega) ?_ | refine zN (by omega) ?_ | refine amin ?_ | refine amax ?_ | refine zU (by omega) ?_ | refine z8 (by omega) ?_ | refine zX (by omega) (by omega) ?_ | refine zR rfl ?_ | refine acellA ?_ | (apply zL H; (· repeat first | exact .h | apply AtK.t); (· rfl)) | (apply zA H; (· repeat first | exact .h | apply AtK.t)) | (apply zS H; (· repeat first | exact .h | apply AtK.t); (· rfl); (conv => whnf); clear H; intro τ H) | rw [List.length_map]); (refine wX ?_)))
    refine aget (by omega) (get_ints' h) ?_
    (refine wX ?_)
    refine acell rfl ?_
    (refine wX ?_)
    (repeat ((first | refine zI (by omega) ?_ | refine zE (by omega) (by omega) ?_ | refine zD (by omega) (by omega) ?_ | refine zY (by omega) ?_ | refine zN (by omega) ?_ | refine amin ?_ | refine amax ?_ | refine zU (by omega) ?_ | refine z8 (by omega) ?_ | refine zX (by omega) (by omega) ?_ | refine zR rfl ?_ | refine acellA ?_ | (apply zL H; (· repeat first | exact .h | apply AtK.t); (· rfl)) | (apply zA H; (· repeat first | exact .h | apply AtK.t)) | (apply zS H; (· repeat first | exact .h | apply AtK.t); (· rfl); (conv => whnf); clear H; intro τ H) | rw [List.length_map]); (refine wX ?_)))
    refine ⟨i + 1, by omega, by omega, Sub.refl _, ?_⟩
    (refine wX ?_)
    (repeat' first | with_reducible exact EnvLe.refl _ | (refine EnvLe.node ?_ (by first | exact Or.inl rfl | exact Or.inr (Or.inl rfl) | exact Or.inr (Or.inr ⟨nofun, VLe.slice _ _ _⟩)) ?_))
  · (repeat ((first | refine zI (by omega) ?_ | refine zE (by omega) (by omega) ?_ | refine zD (by omega) (by omega) ?_ | refine zY (by omega) ?_ | refine zN (by omega) ?_ | refine amin ?_ | refine amax ?_ | refine zU (by omega) ?_ | refine z8 (by omega) ?_ | refine zX (by omega) (by omega) ?_ | refine zR rfl ?_ | refine acellA ?_ | (apply zL H; (· repeat first | exact .h | apply AtK.t); (· rfl)) | (apply zA H; (· repeat first | exact .h | apply AtK.t)) | (apply zS H; (· repeat first | exact .h | apply AtK.t); (· rfl); (conv => whnf); clear H; intro τ H) | rw [List.length_map]); (refine wX ?_)))
    exact aret (VLe.refl _) (Sub.refl _) ⟨rfl, rfl⟩
theorem sameB {σ : AHeap} {v : AVal} {a : List Int} (hb : Beg σ v a) (u : Tok) (hl : a.length ≤ 1000000) : ACalls Try.prog i_bowlinelaw19_same [v, ints u a] σ fun v σ' => v = boolv true ∧ σ' = σ := by
  refine k_bowlinelaw19_same rfl ?_
  have H := Hp.nil σ
  rcases hb with ⟨t, rfl, rfl⟩ | ⟨r, xs, rfl, b1, hx⟩
  · (refine wX ?_)
    (repeat ((first | refine zI (by omega) ?_ | refine zE (by omega) (by omega) ?_ | refine zD (by omega) (by omega) ?_ | refine zY (by omega) ?_ | refine zN (by omega) ?_ | refine amin ?_ | refine amax ?_ | refine zU (by omega) ?_ | refine z8 (by omega) ?_ | refine zX (by omega) (by omega) ?_ | refine zR rfl ?_ | refine acellA ?_ | refine zB H b1 rfl ?_ | refine zC H b1 ?_ | (apply zL H; (· repeat first | exact .h | apply AtK.t); (· rfl)) | (apply zA H; (· repeat first | exact .h | apply AtK.t)) | (apply zS H; (· repeat first | exact .h | apply AtK.t); (· rfl); (conv => whnf); clear H; intro τ H) | rw [List.length_map]); (refine wX ?_)))
    refine aloop (α := Unit) (fun _ => [(s5, i64v 0)]) (fun _ => σ) (fun _ => True) (fun _ => 0) () trivial (Sub.refl _) ?_ ?_
    · (refine wX ?_)
      (repeat' first | with_reducible exact EnvLe.refl _ | (refine EnvLe.node ?_ (by first | exact Or.inl rfl | exact Or.inr (Or.inl rfl) | exact Or.inr (Or.inr ⟨nofun, VLe.slice _ _ _⟩)) ?_))
    rintro ⟨⟩ -
    (refine wX ?_)
    (repeat ((first | refine zI (by omega) ?_ | refine zE (by omega) (by omega) ?_ | refine zD (by omega) (by omega) ?_ | refine zY (by omega) ?_ | refine zN (by omega) ?_ | refine amin ?_ | refine amax ?_ | refine zU (by omega) ?_ | refine z8 (by omega) ?_ | refine zX (by omega) (by omega) ?_ | refine zR rfl ?_ | refine acellA ?_ | refine zB H b1 rfl ?_ | refine zC H b1 ?_ | (apply zL H; (· repeat first | exact .h | apply AtK.t); (· rfl)) | (apply zA H; (· repeat first | exact .h | apply AtK.t)) | (apply zS H; (· repeat first | exact .h | apply AtK.t); (· rfl); (conv => whnf); clear H; intro τ H) | rw [List.length_map]); (refine wX ?_)))
    exact aret (VLe.refl _) (Sub.refl _) ⟨rfl, rfl⟩
  (refine wX ?_)
  rw [List.length_map]
  (repeat ((first | refine zI (by omega) ?_ | refine zE (by omega) (by omega) ?_ | refine zD (by omega) (by omega) ?_ | refine zY (by omega) ?_ | refine zN (by omega) ?_ | refine amin ?_ | refine amax ?_ | refine zU (by omega) ?_ | refine z8 (by omega) ?_ | refine zX (by omega) (by omega) ?_ | refine zR rfl ?_ | refine acellA ?_ | refine zB H b1 rfl ?_ | refine zC H b1 ?_ | (apply zL H; (· repeat first | exact .h | apply AtK.t); (· rfl)) | (apply zA H; (· repeat first | exact .h | apply AtK.t)) | (apply zS H; (· repeat first | exact .h | apply AtK.t); (· rfl); (conv => whnf); clear H; intro τ H) | rw [List.length_map]); (refine wX ?_)))
  refine aloop (α := Nat) (fun i => [(s5, i64v i)]) (fun _ => σ) (fun i => i ≤ a.length) (fun i => a.length - i) 0 (Nat.zero_le _) (Sub.refl _) ?_ ?_
  · (refine wX ?_)
    (repeat' first | with_reducible exact EnvLe.refl _ | (refine EnvLe.node ?_ (by first | exact Or.inl rfl | exact Or.inr (Or.inl rfl) | exact Or.inr (Or.inr ⟨nofun, VLe.slice _ _ _⟩)) ?_))
  intro i hi
  (refine wX ?_)
  (repeat ((first | refine zI (by omega) ?_ | refine zE (by omega) (by omega) ?_ | refine zD (by omega) (by omega) ?_ | refine zY (by omega) ?_ | refine zN (by omega) ?_ | refine amin ?_ | refine amax ?_ | refine zU (by omega) ?_ | refine z8 (by omega) ?_ | refine zX (by omega) (by omega) ?_ | refine zR rfl ?_ | refine acellA ?_ | refine zB H b1 rfl ?_ | refine zC H b1 ?_ | (apply zL H; (· repeat first | exact .h | apply AtK.t); (· rfl)) | (apply zA H; (· repeat first | exact .h | apply AtK.t)) | (apply zS H; (· repeat first | exact .h | apply AtK.t); (· rfl); (conv => whnf); clear H; intro τ H) | rw [List.length_map]); (refine wX ?_)))
  by_cases h : i < a.length
  · (repeat ((first | refine zI (by omega) ?_ | refine zE (by omega) (by omega) ?_ | refine zD (by omega) (by omega) ?_ | refine zY (by omega) ?_ | refine zN (by omega) ?_ | refine amin ?_ | refine amax ?_ | refine zU (by omega) ?_ | refine z8 (by omega) ?_ | refine zX (by omega) (by omega) ?_ | refine zR rfl ?_ | refine acellA ?_ | refine zB H b1 rfl ?_ | refine zC H b1 ?_ | (apply zL H; (· repeat first | exact .h | apply AtK.t); (· rfl)) | (apply zA H; (· repeat first | exact .h | apply AtK.t)) | (apply zS H; (· repeat first | exact .h | apply AtK.t); (· rfl); (conv => whnf); clear H; intro τ H) | rw [List.length_map]); (refine wX ?_)))
    have e : (xs.map i64v)[0 + ((i : Nat) : Int).toNat * 1]? = some (i64v a[i]) := by
      have e1 : xs[i]? = some a[i] := by
        have : (xs.take a.length)[i]? = some a[i] := by rw [hx, List.getElem?_eq_getElem h]
        rwa [List.getElem?_take_of_lt h] at this
      rw [Int.toNat_natCast, Nat.mul_one, Nat.zero_add, List.getElem?_map, e1]; rfl
    refine zB H b1 e ?_
    (refine wX ?_)
    (repeat ((first | refine zI (by omega) ?_ | refine zE (by omega) (by omega) ?_ | refine zD (by omega) (by omega) ?_ | refine zY (by omega) ?_ | refine zN (by omega) ?_ | refine amin ?_ | refine amax ?_ | refine zU (by omega) ?_ | refine z8 (by omega) ?_ | refine zX (by omega) (by omega) ?_ | refine zR rfl ?_ | refine acellA ?_ | refine zB H b1 rfl ?_ | refine zC H b1 ?_ | (apply zL H; (· repeat first | exact .h | apply AtK.t); (· rfl)) | (apply zA H; (· repeat first | exact .h | apply AtK.t)) | (apply zS H; (· repeat first | exact .h | apply AtK.t); (· rfl); (conv => whnf); clear H; intro τ H) | rw [List.length_map]); (refine wX ?_)))
    refine aget (by omega) (get_ints' h) ?_
    (refine wX ?_)
    refine acell rfl ?_
    (refine wX ?_)
    (repeat ((first | refine zI (by omega) ?_ | refine zE (by omega) (by omega) ?_ | refine zD (by omega) (by omega) ?_ | refine zY (by omega) ?_ | refine zN (by omega) ?_ | refine amin ?_ | refine amax ?_ | refine zU (by omega) ?_ | refine z8 (by omega) ?_ | refine zX (by omega) (by omega) ?_ | refine zR rfl ?_ | refine acellA ?_ | refine zB H b1 rfl ?_ | refine zC H b1 ?_ | (apply zL H; (· repeat first | exact .h | apply AtK.t); (· rfl)) | (apply zA H; (· repeat first | exact .h | apply AtK.t)) | (apply zS H; (· repeat first | exact .h | apply AtK.t); (· rfl); (conv => whnf); clear H; intro τ H) | rw [List.length_map]); (refine wX ?_)))
    refine ⟨i + 1, by omega, by omega, Sub.refl _, ?_⟩
    (refine wX ?_)
    (repeat' first | with_reducible exact EnvLe.refl _ | (refine EnvLe.node ?_ (by first | exact Or.inl rfl | exact Or.inr (Or.inl rfl) | exact Or.inr (Or.inr ⟨nofun, VLe.slice _ _ _⟩)) ?_))
  · (repeat ((first | refine zI (by omega) ?_ | refine zE (by omega) (by omega) ?_ | refine zD (by omega) (by omega) ?_ | refine zY (by omega) ?_ | refine zN (by omega) ?_ | refine amin ?_ | refine amax ?_ | refine zU (by omega) ?_ | refine z8 (by omega) ?_ | refine zX (by omega) (by omega) ?_ | refine zR rfl ?_ | refine acellA ?_ | refine zB H b1 rfl ?_ | refine zC H b1 ?_ | (apply zL H; (· repeat first | exact .h | apply AtK.t); (· rfl)) | (apply zA H; (· repeat first | exact .h | apply AtK.t)) | (apply zS H; (· repeat first | exact .h | apply AtK.t); (· rfl); (conv => whnf); clear H; intro τ H) | rw [List.length_map]); (refine wX ?_)))
    exact aret (VLe.refl _) (Sub.refl _) ⟨rfl, rfl⟩
abbrev DE.core (d : DE) : Core := (d.p, d.m, d.c)
abbrev snC (c : Core) : Int := c.1.sn
/-- The same packets, in two orders. -/
structure SameC (S D : List Core) : Prop where
  perm : S.Perm D
  nd : (S.map snC).Nodup
  up : (D.map snC).Pairwise (· < ·)
  so : ∀ c ∈ D, SOk c.2.1
def dlC (S : List Core) (k : Int) : List Sp := match findC S k with
  | some c => c.2.1
  | none => []
def duesC (D : List Core) : List Int := (D.filter fun c => decide (0 < cntL c.2.1)).map snC
def sumC (D : List Core) : Int := (D.map fun c => cntL c.2.1).sum
theorem findC_mem : ∀ {S : List Core} {c : Core}, (S.map snC).Nodup → c ∈ S → findC S c.1.sn = some c
  | a :: S, c, hn, hc => by
    rw [List.map_cons, List.nodup_cons] at hn
    unfold findC
    rw [List.find?_cons]
    rcases List.mem_cons.1 hc with rfl | hc
    · simp
    · have : a.1.sn ≠ c.1.sn := fun e => hn.1 (by rw [show snC a = snC c from e]; exact List.mem_map_of_mem hc)
      have hb : (a.1.sn == c.1.sn) = false := by simp [this]
      rw [hb]
      exact findC_mem (S := S) hn.2 hc
theorem SameC.dl {S D : List Core} (h : SameC S D) {c : Core} (hc : c ∈ D) : dlC S c.1.sn = c.2.1 := by
  unfold dlC
  rw [findC_mem h.nd (h.perm.mem_iff.2 hc)]
theorem SameC.nums {S D : List Core} (h : SameC S D) : sortI (S.map snC) = D.map snC := by
  rw [sortI_eq (h.perm.map snC)]
  refine List.Perm.eq_of_pairwise (le := fun x y : Int => x ≤ y) (fun x y _ _ h1 h2 => by omega) (sortI_sorted _) (h.up.imp fun h => by omega) (sortI_perm _)
theorem SameC.dues {S D : List Core} (h : SameC S D) : keepI (dlC S) (D.map snC) = duesC D := by
  unfold keepI duesC
  rw [List.filter_map]
  congr 1
  refine List.filter_congr fun c hc => ?_
  show (!noDue (dlC S) (snC c)) = _
  unfold noDue
  rw [show dlC S (snC c) = c.2.1 from h.dl hc]
  have := cntL_bound (h.so c hc)
  by_cases e : cntL c.2.1 = 0
  · rw [decide_eq_true e, decide_eq_false (by omega)]; rfl
  · rw [decide_eq_false e, decide_eq_true (by omega)]; rfl
theorem SameC.sum {S D : List Core} (h : SameC S D) : dueSum (dlC S) (S.map snC) = sumC D := by
  rw [dueSum_perm (h.perm.map snC)]
  unfold dueSum sumC
  rw [List.map_map]
  congr 1
  refine List.map_congr_left fun c hc => ?_
  show cntL (dlC S (snC c)) = _
  rw [show dlC S (snC c) = c.2.1 from h.dl hc]
theorem dues_snoc (D : List Core) (c : Core) : duesC (D ++ [c]) = if 0 < cntL c.2.1 then duesC D ++ [snC c] else duesC D := by
  unfold duesC
  rw [List.filter_append, List.map_append]
  by_cases h : 0 < cntL c.2.1
  · rw [if_pos h, List.filter_cons, if_pos (decide_eq_true h)]; rfl
  · rw [if_neg h, List.filter_cons, if_neg (by rw [decide_eq_false h]; simp), List.filter_nil]; simp
theorem sumC_snoc (D : List Core) (c : Core) : sumC (D ++ [c]) = sumC D + cntL c.2.1 := by
  unfold sumC
  rw [List.map_append, List.sum_append]; simp
theorem dues_len (D : List Core) : (duesC D).length ≤ D.length := by unfold duesC; rw [List.length_map]; exact List.length_filter_le _ _
section
variable {σb σ : AHeap} {ist im : Nat} {wd : Int} {X : List PS} {G : List HE}
theorem keptX (H : Hp σb (SDx ist im wd X ++ G) σ) (ok : SOkx X) : Kept σ (esP X) (dlC (X.map PS.core)) := by
  refine ⟨fun e he => ?_⟩
  obtain ⟨x, hx, rfl⟩ := List.mem_map.1 he
  obtain ⟨g1, g2⟩ := SDx.at_ H hx
  have hd : dlC (X.map PS.core) x.p.sn = x.l := by
    unfold dlC
    have : ((X.map PS.core).map snC).Nodup := by rw [List.map_map]; exact ok.nd
    rw [show x.p.sn = x.core.1.sn from rfl, findC_mem this (List.mem_map_of_mem hx)]
  exact ⟨x.ie, x.p, _, x.id, x.c, x.tk, rfl, g2, by rw [hd]; exact g1, by rw [hd]; exact (ok.ok x hx).so⟩
theorem keysX : (esP X).map (·.1) = (X.map PS.core).map snC := by rw [List.map_map, List.map_map]; rfl
theorem pNumbers (H : Hp σb (SDx ist im wd X ++ G) σ) (ok : SOkx X) {D : List Core} (h : SameC (X.map PS.core) D) : ACalls Try.prog i_sent_Store_Numbers [.ptr ist 0] σ fun v σ' => v = ints .none (D.map snC) ∧ σ' = σ := by
  have := stNumbers (SDx.b1 H) (SDx.b2 H) (by rw [List.length_map]; have := ok.len; omega) (fun e he => by obtain ⟨x, hx, rfl⟩ := List.mem_map.1 he; exact (ok.ok x hx).sn)
  rw [keysX, h.nums] at this
  exact this
theorem pBytes (H : Hp σb (SDx ist im wd X ++ G) σ) (ok : SOkx X) {D : List Core} (h : SameC (X.map PS.core) D) : ACalls Try.prog i_sent_Store_Bytes [.ptr ist 0] σ fun v σ' => v = i64v (sumC D) ∧ σ' = σ := by
  have := stBytes (SDx.b1 H) (SDx.b2 H) (by rw [List.length_map]; have := ok.len; omega) (fun e he => by obtain ⟨x, hx, rfl⟩ := List.mem_map.1 he; exact (ok.ok x hx).sn) (keptX H ok)
  rw [keysX, h.sum] at this
  exact this
theorem pDues (H : Hp σb (SDx ist im wd X ++ G) σ) (ok : SOkx X) {D : List Core} (h : SameC (X.map PS.core) D) : ACalls Try.prog i_sent_Store_Dues [.ptr ist 0] σ fun v σ' => Beg σ' v (duesC D) ∧ ∃ E, Hp σ E σ' := by
  have := stDues (SDx.b1 H) (SDx.b2 H) (by rw [List.length_map]; have := ok.len; omega) (fun e he => by obtain ⟨x, hx, rfl⟩ := List.mem_map.1 he; exact (ok.ok x hx).sn) (keptX H ok)
  rw [keysX, h.nums, h.dues] at this
  exact this
/-- What lives on where more is there. -/
theorem Hp.later {M L : List HE} {τ : AHeap} (H0 : Hp σb M σ) (H : Hp σ L τ) : Hp σb M τ := Hp.rest (A := L) (H0.join H)
end
end Go.Proofs.Ytgobbmdbkmjlnaa
/-
  What is kept to be sent again: a store tells what the document's does: the walk.
-/
namespace Go.Proofs.Ytgobbmdbkmjlnaa
set_option linter.unusedVariables false
set_option linter.unusedSimpArgs false
set_option maxRecDepth 20000
open Go Go.Am

theorem ints_snocS (t : Tok) (a : List Int) (x : Int) : ints t (a ++ [x]) = .slice 1 (a.map i64v ++ [i64v x]) t := by unfold ints; rw [List.map_append]; rfl
section
variable {σb σ : AHeap} {ist im ix : Nat} {wd wd2 : Int} {X : List PS} {G : List HE} {w : AVal} {l : List DE}
set_option maxHeartbeats 8000000 in
theorem tells19 (H0 : Hp σb (SDx ist im wd X ++ G) σ) (ok : SOkx X) (b1 : σ ix = some (.cells [i64v wd2, w])) (hw : DVw σ w l) (hok : ∀ d ∈ l, d.Ok) (hT : ∀ d ∈ l, TOk σ d.v d.L) (hl : l.length ≤ 1000) (hS : SameC (X.map PS.core) (l.map DE.core)) (hcc : ∀ d ∈ l, 0 ≤ d.c ∧ d.c ≤ 1000000) :
    ACalls Try.prog i_bowlinelaw19_tells [.ptr ist 0, .ptr ix 0] σ fun v σ' => v = boolv true ∧ Hp σ [] σ' := by
  refine k_bowlinelaw19_tells rfl ?_
  have H := (Hp.nil σ).cons_full.cons_full
  have hso : ∀ d ∈ l, SOk d.m := fun d hd => (hok d hd).so
  (refine wX ?_)
  rcases hw with ⟨rfl, rfl⟩ | ⟨r, rfl, b2, hne⟩
  · refine aloop (α := Unit) (fun _ => [(s5, ints .full []), (s6, ints .full []), (s7, i64v 0), (s8, i64v 0)]) (fun _ => σ) (fun _ => True) (fun _ => 0) () trivial (Sub.refl _) ?_ ?_
    · (refine wX ?_)
      (repeat' first | with_reducible exact EnvLe.refl _ | (refine EnvLe.node ?_ (by first | exact Or.inl rfl | exact Or.inr (Or.inl rfl) | exact Or.inr (Or.inr ⟨nofun, VLe.slice _ _ _⟩)) ?_))
    rintro ⟨⟩ -
    (refine wX ?_)
    (repeat ((first | refine zI (by omega) ?_ | refine zE (by omega) (by omega) ?_ | refine zD (by omega) (by omega) ?_ | refine zY (by omega) ?_ | refine zN (by omega) ?_ | refine amin ?_ | refine amax ?_ | refine zU (by omega) ?_ | refine z8 (by omega) ?_ | refine zX (by omega) (by omega) ?_ | refine zR rfl ?_ | refine acellA ?_ | refine zB H b1 rfl ?_ | refine zC H b1 ?_ | refine zB H b2 rfl ?_ | refine zC H b2 ?_ | (apply zL H; (· repeat first | exact .h | apply AtK.t); (· rfl)) | (apply zA H; (· repeat first | exact .h | apply AtK.t)) | (apply zS H; (· repeat first | exact .h | apply AtK.t); (· rfl); (conv => whnf); clear H; intro τ H) | rw [List.length_map]); (refine wX ?_)))
    have hk : (([] : List DE).map DE.core).map snC = ([] : List DE).map (fun d => d.p.sn) := by rw [List.map_map]; rfl
    have hdl := dues_len (([] : List DE).map DE.core)
    rw [List.length_map] at hdl
    have g4 := pNumbers (H0.later H) ok hS
    rw [hk] at g4
    refine acall (g4) ?_
    rintro _ σ_ ⟨rfl, e_⟩
    obtain rfl := e_.symm
    refine ⟨?_, Ext.refl _⟩
    (refine wX ?_)
    refine acall (sameI _ .none .full _ (by rw [List.length_map]; omega)) ?_
    rintro _ σ_ ⟨rfl, e_⟩
    obtain rfl := e_.symm
    refine ⟨?_, Ext.refl _⟩
    (refine wX ?_)
    (refine wX ?_)
    refine acall (pDues (H0.later H) ok hS) ?_
    rintro v τ2 ⟨hB, E, N⟩
    refine ⟨?_, N.ext⟩
    replace H := (H.join N).right
    (refine wX ?_)
    refine acall (sameB hB .full (by omega)) ?_
    rintro _ σ_ ⟨rfl, e_⟩
    obtain rfl := e_.symm
    refine ⟨?_, Ext.refl _⟩
    (refine wX ?_)
    (refine wX ?_)
    refine acall (pBytes (H0.later H) ok hS) ?_
    rintro _ σ_ ⟨rfl, e_⟩
    obtain rfl := e_.symm
    refine ⟨?_, Ext.refl _⟩
    (refine wX ?_)
    (repeat ((first | refine zI (by omega) ?_ | refine zE (by omega) (by omega) ?_ | refine zD (by omega) (by omega) ?_ | refine zY (by omega) ?_ | refine zN (by omega) ?_ | refine amin ?_ | refine amax ?_ | refine zU (by omega) ?_ | refine z8 (by omega) ?_ | refine zX (by omega) (by omega) ?_ | refine zR rfl ?_ | refine acellA ?_ | refine zB H b1 rfl ?_ | refine zC H b1 ?_ | refine zB H b2 rfl ?_ | refine zC H b2 ?_ | (apply zL H; (· repeat first | exact .h | apply AtK.t); (· rfl)) | (apply zA H; (· repeat first | exact .h | apply AtK.t)) | (apply zS H; (· repeat first | exact .h | apply AtK.t); (· rfl); (conv => whnf); clear H; intro τ H) | rw [List.length_map]); (refine wX ?_)))
    exact aret (VLe.refl _) (Sub.refl _) ⟨rfl, H.left (L := [])⟩
  refine aloop (α := Nat × Tok × Tok × AHeap) (fun y => [(s5, ints y.2.1 ((l.take y.1).map fun d => d.p.sn)), (s6, ints y.2.2.1 (duesC ((l.take y.1).map DE.core))), (s7, i64v (sumC ((l.take y.1).map DE.core))), (s8, i64v y.1)]) (fun y => y.2.2.2)
    (fun y => y.1 ≤ l.length ∧ Hp σ [.t y.2.1, .t y.2.2.1] y.2.2.2 ∧ 0 ≤ sumC ((l.take y.1).map DE.core) ∧ sumC ((l.take y.1).map DE.core) ≤ 65536 * (y.1 : Int)) (fun y => l.length - y.1) (0, .full, .full, σ) ⟨Nat.zero_le _, H, by show (0 : Int) ≤ 0; omega, by show (0 : Int) ≤ 65536 * ((0 : Nat) : Int); omega⟩ (Sub.refl _) ?_ ?_
  · (refine wX ?_)
    (repeat' first | with_reducible exact EnvLe.refl _ | (refine EnvLe.node ?_ (by first | exact Or.inl rfl | exact Or.inr (Or.inl rfl) | exact Or.inr (Or.inr ⟨nofun, VLe.slice _ _ _⟩)) ?_))
  clear H
  rintro ⟨i, ta, tb2, τ⟩ ⟨hi, H, hs0, hs1⟩
  dsimp only at hi H hs0 hs1 ⊢
  (refine wX ?_)
  (repeat ((first | refine zI (by omega) ?_ | refine zE (by omega) (by omega) ?_ | refine zD (by omega) (by omega) ?_ | refine zY (by omega) ?_ | refine zN (by omega) ?_ | refine amin ?_ | refine amax ?_ | refine zU (by omega) ?_ | refine z8 (by omega) ?_ | refine zX (by omega) (by omega) ?_ | refine zR rfl ?_ | refine acellA ?_ | refine zB H b1 rfl ?_ | refine zC H b1 ?_ | refine zB H b2 rfl ?_ | refine zC H b2 ?_ | (apply zL H; (· repeat first | exact .h | apply AtK.t); (· rfl)) | (apply zA H; (· repeat first | exact .h | apply AtK.t)) | (apply zS H; (· repeat first | exact .h | apply AtK.t); (· rfl); (conv => whnf); clear H; intro τ H) | rw [List.length_map]); (refine wX ?_)))
  by_cases h : i < l.length
  case pos =>
    obtain ⟨d, hd⟩ : ∃ d, d = l[i] := ⟨_, rfl⟩
    have hdm : d ∈ l := by rw [hd]; exact List.getElem_mem h
    have dok := hok d hdm
    have hgc : ∀ k, k < 9 → (deC l)[i * 9 + k]? = d.cells[k]? := fun k hk => by rw [deC_get h hk, hd]
    have hTd := (hT d hdm).up H.ext
    obtain ⟨x, hx, hxc⟩ := List.mem_map.1 (hS.perm.mem_iff.2 (List.mem_map_of_mem (f := DE.core) hdm))
    have hxp : x.p = d.p := congrArg (·.1) hxc
    have hxm : x.l = d.m := congrArg (·.2.1) hxc
    have hxk : x.c = d.c := congrArg (·.2.2) hxc
    (repeat ((first | refine zI (by omega) ?_ | refine zE (by omega) (by omega) ?_ | refine zD (by omega) (by omega) ?_ | refine zY (by omega) ?_ | refine zN (by omega) ?_ | refine amin ?_ | refine amax ?_ | refine zU (by omega) ?_ | refine z8 (by omega) ?_ | refine zX (by omega) (by omega) ?_ | refine zR rfl ?_ | refine acellA ?_ | refine zB H b1 rfl ?_ | refine zC H b1 ?_ | refine zB H b2 rfl ?_ | refine zC H b2 ?_ | (apply zL H; (· repeat first | exact .h | apply AtK.t); (· rfl)) | (apply zA H; (· repeat first | exact .h | apply AtK.t)) | (apply zS H; (· repeat first | exact .h | apply AtK.t); (· rfl); (conv => whnf); clear H; intro τ H) | rw [List.length_map]); (refine wX ?_)))
    refine zB H b2 (x := i64v d.p.sn) (by rw [show 0 + ((i : Nat) : Int).toNat * 9 + 0 + 2 = i * 9 + 2 by omega]; exact hgc 2 (by decide)) ?_
    (refine wX ?_)
    have g1 := pGet (H0.later H) ok hx
    rw [hxp] at g1
    refine acall (g1) ?_
    rintro _ σ_ ⟨rfl, e_⟩
    obtain rfl := e_.symm
    refine ⟨?_, Ext.refl _⟩
    (refine wX ?_)
    refine hnew H rfl ?_
    clear H
    intro i10 τ H
    (refine wX ?_)
    (repeat ((first | refine zI (by omega) ?_ | refine zE (by omega) (by omega) ?_ | refine zD (by omega) (by omega) ?_ | refine zY (by omega) ?_ | refine zN (by omega) ?_ | refine amin ?_ | refine amax ?_ | refine zU (by omega) ?_ | refine z8 (by omega) ?_ | refine zX (by omega) (by omega) ?_ | refine zR rfl ?_ | refine acellA ?_ | refine zB H b1 rfl ?_ | refine zC H b1 ?_ | refine zB H b2 rfl ?_ | refine zC H b2 ?_ | (apply zL H; (· repeat first | exact .h | apply AtK.t); (· rfl)) | (apply zA H; (· repeat first | exact .h | apply AtK.t)) | (apply zS H; (· repeat first | exact .h | apply AtK.t); (· rfl); (conv => whnf); clear H; intro τ H) | rw [List.length_map]); (refine wX ?_)))
    refine dtK_de (k := 0) h (by omega) (by decide) ?_
    rw [← hd, show (d.cells.drop 0).take 7 = (amV d.p).cells from rfl]
    (refine wX ?_)
    refine acall (As10 d.p _) ?_
    rintro _ σ_ ⟨rfl, e_⟩
    obtain rfl := e_.symm
    refine ⟨?_, Ext.refl _⟩
    (refine wX ?_)
    refine acall (rSame10 d.p d.p _ (by have := dok.fl; omega)) ?_
    rintro _ σ_ ⟨rfl, e_⟩
    obtain rfl := e_.symm
    refine ⟨?_, Ext.refl _⟩
    (refine wX ?_)
    rw [decide_eq_true rfl]
    (refine wX ?_)
    (repeat ((first | refine zI (by omega) ?_ | refine zE (by omega) (by omega) ?_ | refine zD (by omega) (by omega) ?_ | refine zY (by omega) ?_ | refine zN (by omega) ?_ | refine amin ?_ | refine amax ?_ | refine zU (by omega) ?_ | refine z8 (by omega) ?_ | refine zX (by omega) (by omega) ?_ | refine zR rfl ?_ | refine acellA ?_ | refine zB H b1 rfl ?_ | refine zC H b1 ?_ | refine zB H b2 rfl ?_ | refine zC H b2 ?_ | (apply zL H; (· repeat first | exact .h | apply AtK.t); (· rfl)) | (apply zA H; (· repeat first | exact .h | apply AtK.t)) | (apply zS H; (· repeat first | exact .h | apply AtK.t); (· rfl); (conv => whnf); clear H; intro τ H) | rw [List.length_map]); (refine wX ?_)))
    refine zB H b2 (x := i64v d.c) (by rw [show 0 + ((i : Nat) : Int).toNat * 9 + 8 = i * 9 + 8 by omega]; exact hgc 8 (by decide)) ?_
    (refine wX ?_)
    have g2 := pCount (H0.later H) ok hx
    rw [hxp, hxk] at g2
    refine acall (g2) ?_
    rintro _ σ_ ⟨rfl, e_⟩
    obtain rfl := e_.symm
    refine ⟨?_, Ext.refl _⟩
    (refine wX ?_)
    (repeat ((first | refine zI (by omega) ?_ | refine zE (by omega) (by omega) ?_ | refine zD (by omega) (by omega) ?_ | refine zY (by omega) ?_ | refine zN (by omega) ?_ | refine amin ?_ | refine amax ?_ | refine zU (by omega) ?_ | refine z8 (by omega) ?_ | refine zX (by omega) (by omega) ?_ | refine zR rfl ?_ | refine acellA ?_ | refine zB H b1 rfl ?_ | refine zC H b1 ?_ | refine zB H b2 rfl ?_ | refine zC H b2 ?_ | (apply zL H; (· repeat first | exact .h | apply AtK.t); (· rfl)) | (apply zA H; (· repeat first | exact .h | apply AtK.t)) | (apply zS H; (· repeat first | exact .h | apply AtK.t); (· rfl); (conv => whnf); clear H; intro τ H) | rw [List.length_map]); (refine wX ?_)))
    refine dtK_de (k := 7) h (by omega) (by decide) ?_
    rw [← hd, show (d.cells.drop 7).take 1 = [d.v] from rfl]
    (refine wX ?_)
    have g3 := pDue (H0.later H) ok hx
    rw [hxp, hxm] at g3
    refine acall g3 ?_
    rintro _ υ ⟨u, hu, rfl⟩
    refine ⟨?_, hu.ext⟩
    replace H := H.owned hu
    clear hu
    (refine wX ?_)
    refine acall (lAs u (by have := dok.so.k; omega)) ?_
    rintro _ σ_ ⟨rfl, e_⟩
    obtain rfl := e_.symm
    refine ⟨?_, Ext.refl _⟩
    (refine wX ?_)
    refine acall (rSpans03 ((hT d hdm).up H.ext) dok.rel.len) ?_
    rintro _ υ2 ⟨E2, hE2, N2⟩
    refine ⟨?_, N2.ext⟩
    replace H := (H.join N2).right
    (refine wX ?_)
    refine acall (rSame03 hE2 N2 (by have := dok.so.k; omega)) ?_
    rintro _ σ_ ⟨rfl, e_⟩
    obtain rfl := e_.symm
    refine ⟨?_, Ext.refl _⟩
    (refine wX ?_)
    rw [decide_eq_true (rel_run dok.so.n dok.rel).symm]
    clear hE2 N2
    replace H : Hp σ [.t ta, .t tb2] υ2 := H.tail.tail
    (refine wX ?_)
    (repeat ((first | refine zI (by omega) ?_ | refine zE (by omega) (by omega) ?_ | refine zD (by omega) (by omega) ?_ | refine zY (by omega) ?_ | refine zN (by omega) ?_ | refine amin ?_ | refine amax ?_ | refine zU (by omega) ?_ | refine z8 (by omega) ?_ | refine zX (by omega) (by omega) ?_ | refine zR rfl ?_ | refine acellA ?_ | refine zB H b1 rfl ?_ | refine zC H b1 ?_ | refine zB H b2 rfl ?_ | refine zC H b2 ?_ | (apply zL H; (· repeat first | exact .h | apply AtK.t); (· rfl)) | (apply zA H; (· repeat first | exact .h | apply AtK.t)) | (apply zS H; (· repeat first | exact .h | apply AtK.t); (· rfl); (conv => whnf); clear H; intro τ H) | rw [List.length_map]); (refine wX ?_)))
    apply zP H
    · (repeat first | exact .h | apply AtK.t)
    · exact (by rw [List.length_map, List.length_map, List.length_take]; simp only [List.length_singleton]; omega)
    intro ta2
    (conv => whnf)
    clear H
    intro τ H
    (refine wX ?_)
    have hcb := cntL_bound dok.so
    have hbt := dBytes (H.sub _ _ b1) (.inr ⟨r, rfl, H.sub _ _ b2, hne⟩) h (by rw [← hd]; exact (hT d hdm).up H.ext) (by rw [← hd]; exact dok)
    rw [← hd] at hbt
    refine acall (hbt) ?_
    rintro _ σ_ ⟨rfl, e_⟩
    obtain rfl := e_.symm
    refine ⟨?_, Ext.refl _⟩
    (refine wX ?_)
    have et : l.take (i + 1) = l.take i ++ [d] := by rw [List.take_add_one, List.getElem?_eq_getElem h, ← hd]; rfl
    have e1 : (l.take (i + 1)).map (fun d => d.p.sn) = (l.take i).map (fun d => d.p.sn) ++ [d.p.sn] := by rw [et, List.map_append]; rfl
    have e2 : duesC ((l.take (i + 1)).map DE.core) = if 0 < cntL d.m then duesC ((l.take i).map DE.core) ++ [d.p.sn] else duesC ((l.take i).map DE.core) := by rw [et, List.map_append]; exact dues_snoc _ d.core
    have e3 : sumC ((l.take (i + 1)).map DE.core) = sumC ((l.take i).map DE.core) + cntL d.m := by rw [et, List.map_append]; exact sumC_snoc _ d.core
    have hdl := dues_len ((l.take i).map DE.core)
    rw [List.length_map, List.length_take] at hdl
    by_cases hpos : 0 < cntL d.m
    · rw [if_pos hpos] at e2
      (repeat ((first | refine zI (by omega) ?_ | refine zE (by omega) (by omega) ?_ | refine zD (by omega) (by omega) ?_ | refine zY (by omega) ?_ | refine zN (by omega) ?_ | refine amin ?_ | refine amax ?_ | refine zU (by omega) ?_ | refine z8 (by omega) ?_ | refine zX (by omega) (by omega) ?_ | refine zR rfl ?_ | refine acellA ?_ | refine zB H b1 rfl ?_ | refine zC H b1 ?_ | refine zB H b2 rfl ?_ | refine zC H b2 ?_ | (apply zL H; (· repeat first | exact .h | apply AtK.t); (· rfl)) | (apply zA H; (· repeat first | exact .h | apply AtK.t)) | (apply zS H; (· repeat first | exact .h | apply AtK.t); (· rfl); (conv => whnf); clear H; intro τ H) | rw [List.length_map]); (refine wX ?_)))
      apply zP H
      · (repeat first | exact .h | apply AtK.t)
      · exact (by rw [List.length_map]; simp only [List.length_singleton]; omega)
      intro tb3
      (conv => whnf)
      clear H
      intro τ H
      (refine wX ?_)
      have hbt := dBytes (H.sub _ _ b1) (.inr ⟨r, rfl, H.sub _ _ b2, hne⟩) h (by rw [← hd]; exact (hT d hdm).up H.ext) (by rw [← hd]; exact dok)
      rw [← hd] at hbt
      refine acall (hbt) ?_
      rintro _ σ_ ⟨rfl, e_⟩
      obtain rfl := e_.symm
      refine ⟨?_, Ext.refl _⟩
      (refine wX ?_)
      (repeat ((first | refine zI (by omega) ?_ | refine zE (by omega) (by omega) ?_ | refine zD (by omega) (by omega) ?_ | refine zY (by omega) ?_ | refine zN (by omega) ?_ | refine amin ?_ | refine amax ?_ | refine zU (by omega) ?_ | refine z8 (by omega) ?_ | refine zX (by omega) (by omega) ?_ | refine zR rfl ?_ | refine acellA ?_ | refine zB H b1 rfl ?_ | refine zC H b1 ?_ | refine zB H b2 rfl ?_ | refine zC H b2 ?_ | (apply zL H; (· repeat first | exact .h | apply AtK.t); (· rfl)) | (apply zA H; (· repeat first | exact .h | apply AtK.t)) | (apply zS H; (· repeat first | exact .h | apply AtK.t); (· rfl); (conv => whnf); clear H; intro τ H) | rw [List.length_map]); (refine wX ?_)))
      refine ⟨(i + 1, ta2, tb3, τ), ⟨h, H, ?_⟩, by dsimp only; omega, Sub.refl _, ?_⟩
      · dsimp only
        rw [e3]
        constructor <;> omega
      rw [e1, e2, e3, ints_snocS, ints_snocS]
      (refine wX ?_)
      (repeat' first | with_reducible exact EnvLe.refl _ | (refine EnvLe.node ?_ (by first | exact Or.inl rfl | exact Or.inr (Or.inl rfl) | exact Or.inr (Or.inr ⟨nofun, VLe.slice _ _ _⟩)) ?_))
    · rw [if_neg hpos] at e2
      (repeat ((first | refine zI (by omega) ?_ | refine zE (by omega) (by omega) ?_ | refine zD (by omega) (by omega) ?_ | refine zY (by omega) ?_ | refine zN (by omega) ?_ | refine amin ?_ | refine amax ?_ | refine zU (by omega) ?_ | refine z8 (by omega) ?_ | refine zX (by omega) (by omega) ?_ | refine zR rfl ?_ | refine acellA ?_ | refine zB H b1 rfl ?_ | refine zC H b1 ?_ | refine zB H b2 rfl ?_ | refine zC H b2 ?_ | (apply zL H; (· repeat first | exact .h | apply AtK.t); (· rfl)) | (apply zA H; (· repeat first | exact .h | apply AtK.t)) | (apply zS H; (· repeat first | exact .h | apply AtK.t); (· rfl); (conv => whnf); clear H; intro τ H) | rw [List.length_map]); (refine wX ?_)))
      refine ⟨(i + 1, ta2, tb2, τ), ⟨h, H, ?_⟩, by dsimp only; omega, Sub.refl _, ?_⟩
      · dsimp only
        rw [e3]
        constructor <;> omega
      rw [e1, e2, e3, show cntL d.m = 0 by omega, Int.add_zero, ints_snocS]
      (refine wX ?_)
      (repeat' first | with_reducible exact EnvLe.refl _ | (refine EnvLe.node ?_ (by first | exact Or.inl rfl | exact Or.inr (Or.inl rfl) | exact Or.inr (Or.inr ⟨nofun, VLe.slice _ _ _⟩)) ?_))
  case neg =>
    (repeat ((first | refine zI (by omega) ?_ | refine zE (by omega) (by omega) ?_ | refine zD (by omega) (by omega) ?_ | refine zY (by omega) ?_ | refine zN (by omega) ?_ | refine amin ?_ | refine amax ?_ | refine zU (by omega) ?_ | refine z8 (by omega) ?_ | refine zX (by omega) (by omega) ?_ | refine zR rfl ?_ | refine acellA ?_ | refine zB H b1 rfl ?_ | refine zC H b1 ?_ | refine zB H b2 rfl ?_ | refine zC H b2 ?_ | (apply zL H; (· repeat first | exact .h | apply AtK.t); (· rfl)) | (apply zA H; (· repeat first | exact .h | apply AtK.t)) | (apply zS H; (· repeat first | exact .h | apply AtK.t); (· rfl); (conv => whnf); clear H; intro τ H) | rw [List.length_map]); (refine wX ?_)))
    rw [List.take_of_length_le (by omega : l.length ≤ i)]
    have hk : (l.map DE.core).map snC = l.map (fun d => d.p.sn) := by rw [List.map_map]; rfl
    have hdl := dues_len (l.map DE.core)
    rw [List.length_map] at hdl
    have g4 := pNumbers (H0.later H) ok hS
    rw [hk] at g4
    refine acall (g4) ?_
    rintro _ σ_ ⟨rfl, e_⟩
    obtain rfl := e_.symm
    refine ⟨?_, Ext.refl _⟩
    (refine wX ?_)
    refine acall (sameI _ .none ta _ (by rw [List.length_map]; omega)) ?_
    rintro _ σ_ ⟨rfl, e_⟩
    obtain rfl := e_.symm
    refine ⟨?_, Ext.refl _⟩
    (refine wX ?_)
    (refine wX ?_)
    refine acall (pDues (H0.later H) ok hS) ?_
    rintro v τ2 ⟨hB, E, N⟩
    refine ⟨?_, N.ext⟩
    replace H := (H.join N).right
    (refine wX ?_)
    refine acall (sameB hB tb2 (by omega)) ?_
    rintro _ σ_ ⟨rfl, e_⟩
    obtain rfl := e_.symm
    refine ⟨?_, Ext.refl _⟩
    (refine wX ?_)
    (refine wX ?_)
    refine acall (pBytes (H0.later H) ok hS) ?_
    rintro _ σ_ ⟨rfl, e_⟩
    obtain rfl := e_.symm
    refine ⟨?_, Ext.refl _⟩
    (refine wX ?_)
    (repeat ((first | refine zI (by omega) ?_ | refine zE (by omega) (by omega) ?_ | refine zD (by omega) (by omega) ?_ | refine zY (by omega) ?_ | refine zN (by omega) ?_ | refine amin ?_ | refine amax ?_ | refine zU (by omega) ?_ | refine z8 (by omega) ?_ | refine zX (by omega) (by omega) ?_ | refine zR rfl ?_ | refine acellA ?_ | refine zB H b1 rfl ?_ | refine zC H b1 ?_ | refine zB H b2 rfl ?_ | refine zC H b2 ?_ | (apply zL H; (· repeat first | exact .h | apply AtK.t); (· rfl)) | (apply zA H; (· repeat first | exact .h | apply AtK.t)) | (apply zS H; (· repeat first | exact .h | apply AtK.t); (· rfl); (conv => whnf); clear H; intro τ H) | rw [List.length_map]); (refine wX ?_)))
    exact aret (VLe.refl _) (Sub.refl _) ⟨congrArg boolv (decide_eq_true rfl), H.left (L := [])⟩
end
end Go.Proofs.Ytgobbmdbkmjlnaa
/-
  What is kept to be sent again: a store, and the document's beside it.
-/
namespace Go.Proofs.Ytgobbmdbkmjlnaa
set_option linter.unusedVariables false
set_option linter.unusedSimpArgs false
set_option maxRecDepth 20000
open Go Go.Am

def flatE (l : List DE) : List HE := l.flatMap DE.E
theorem flatE_append (A B : List DE) : flatE (A ++ B) = flatE A ++ flatE B := List.flatMap_append
theorem flatE_cons (d : DE) (B : List DE) : flatE (d :: B) = d.E ++ flatE B := rfl
theorem findC_none {S D : List Core} (h : SameC S D) {sn : Int} (hn : ∀ c ∈ D, snC c ≠ sn) : findC S sn = none := by
  unfold findC
  refine List.find?_eq_none.2 fun c hc => ?_
  have := hn c (h.perm.mem_iff.1 hc)
  simp only [beq_iff_eq]; exact this
theorem findC_some {S D : List Core} (h : SameC S D) {c : Core} (hc : c ∈ D) : findC S (snC c) = some c := findC_mem h.nd (h.perm.mem_iff.2 hc)
theorem core_no {l : List DE} {sn : Int} (h : ∀ d ∈ l, d.p.sn ≠ sn) : ∀ c ∈ l.map DE.core, snC c ≠ sn := fun c hc => by
  obtain ⟨d, hd, rfl⟩ := List.mem_map.1 hc
  exact h d hd
theorem put_same {S : List Core} {l : List DE} (h : SameC S (l.map DE.core)) (p : Pk) (wd : Int) : putCC p wd S = dPutC wd l p := by
  unfold putCC dPutC
  split
  · rfl
  rcases findD_spec l p.sn with ⟨h1, h2⟩ | ⟨A, d, B, hl, h1, h2, h3⟩
  · rw [findC_none h (core_no h2), h1]; rfl
  · have hd : d.core ∈ l.map DE.core := List.mem_map_of_mem (by rw [hl]; simp)
    have := findC_some h hd
    rw [show snC d.core = p.sn from h2] at this
    rw [this, h1, if_pos (by simp), if_pos (by omega)]
theorem up_nd {D : List Core} (h : (D.map snC).Pairwise (· < ·)) : (D.map snC).Nodup := h.imp fun h => by omega
theorem SameC.of {S D : List Core} (h1 : S.Perm D) (h2 : (D.map snC).Pairwise (· < ·)) (h3 : ∀ c ∈ D, SOk c.2.1) : SameC S D :=
  ⟨h1, (h1.map snC).nodup_iff.2 (up_nd h2), h2, h3⟩
theorem SameC.put {S : List Core} {A B : List DE} {p : Pk} (h : SameC S ((A ++ B).map DE.core)) (hA : ∀ d ∈ A, d.p.sn < p.sn) (hB : ∀ d B', B = d :: B' → ¬ d.p.sn < p.sn) (hn : ∀ d ∈ A ++ B, d.p.sn ≠ p.sn) :
    SameC (S ++ [(p, [], 0)]) ((A ++ newD p :: B).map DE.core) := by
  have hup := h.up
  rw [List.map_append, List.map_append, List.pairwise_append] at hup
  obtain ⟨u1, u2, u3⟩ := hup
  have hB2 : ∀ d ∈ B, p.sn < d.p.sn := fun d hd => by
    cases B with
    | nil => simp at hd
    | cons b B =>
      have e1 := hB b B rfl
      have e2 := hn b (by simp)
      rcases List.mem_cons.1 hd with rfl | hd
      · omega
      · rw [List.map_cons, List.map_cons, List.pairwise_cons] at u2
        have := u2.1 d.p.sn (List.mem_map.2 ⟨d.core, List.mem_map_of_mem hd, rfl⟩)
        have e3 : snC b.core = b.p.sn := rfl
        omega
  refine SameC.of ?_ ?_ ?_
  · refine (h.perm.append_right _).trans ?_
    rw [List.map_append, List.map_append, List.map_cons, List.append_assoc]
    exact List.Perm.append_left _ (List.perm_append_singleton _ _)
  · rw [List.map_append, List.map_append, List.map_cons, List.map_cons, List.pairwise_append]
    refine ⟨u1, List.pairwise_cons.2 ⟨fun b hb => ?_, u2⟩, fun a ha b hb => ?_⟩
    · obtain ⟨c, hc, rfl⟩ := List.mem_map.1 hb
      obtain ⟨d, hd, rfl⟩ := List.mem_map.1 hc
      exact hB2 d hd
    · rcases List.mem_cons.1 hb with rfl | hb
      · obtain ⟨c, hc, rfl⟩ := List.mem_map.1 ha
        obtain ⟨d, hd, rfl⟩ := List.mem_map.1 hc
        exact hA d hd
      · exact u3 a ha b hb
  · intro c hc
    rw [List.map_append, List.map_cons] at hc
    rcases List.mem_append.1 hc with hc | hc
    · exact h.so c (by rw [List.map_append]; exact List.mem_append.2 (.inl hc))
    · rcases List.mem_cons.1 hc with rfl | hc
      · exact SOk.nil
      · exact h.so c (by rw [List.map_append]; exact List.mem_append.2 (.inr hc))
theorem SameC.split {S : List Core} {A B : List DE} {d : DE} (h : SameC S ((A ++ d :: B).map DE.core)) : (∀ x ∈ A, x.p.sn ≠ d.p.sn) ∧ (∀ x ∈ B, x.p.sn ≠ d.p.sn) := by
  have hup := h.up
  rw [List.map_append, List.map_append, List.pairwise_append, List.map_cons, List.map_cons, List.pairwise_cons] at hup
  obtain ⟨u1, ⟨u2, _⟩, u3⟩ := hup
  have e : ∀ x : DE, snC x.core = x.p.sn := fun _ => rfl
  refine ⟨fun x hx => ?_, fun x hx => ?_⟩
  · have := u3 _ (List.mem_map_of_mem (List.mem_map_of_mem hx)) (snC d.core) (by simp)
    rw [e, e] at this; omega
  · have := u2 _ (List.mem_map_of_mem (List.mem_map_of_mem hx))
    rw [e, e] at this; omega
theorem drop_id {Y : List DE} {sn : Int} (h : ∀ y ∈ Y, y.p.sn ≠ sn) : dropS (Y.map DE.core) sn = Y.map DE.core := by
  unfold dropS
  refine List.filter_eq_self.2 fun c hc => ?_
  obtain ⟨y, hy, rfl⟩ := List.mem_map.1 hc
  exact decide_eq_true (h y hy)
theorem SameC.drop {S : List Core} {A B : List DE} {d : DE} (h : SameC S ((A ++ d :: B).map DE.core)) : SameC (dropS S d.p.sn) ((A ++ B).map DE.core) := by
  obtain ⟨n1, n2⟩ := h.split
  have e : dropS ((A ++ d :: B).map DE.core) d.p.sn = (A ++ B).map DE.core := by
    have e1 := drop_id n1
    have e2 := drop_id n2
    unfold dropS at e1 e2 ⊢
    rw [List.map_append, List.map_append, List.map_cons, List.filter_append, List.filter_cons, e1, e2, if_neg (by simp)]
  refine SameC.of ?_ ?_ fun c hc => h.so c ?_
  · rw [← e]; exact h.perm.filter _
  · refine List.Pairwise.sublist ?_ h.up
    exact (((List.Sublist.refl A).append (List.sublist_cons_self d B)).map _).map _
  · exact (((List.Sublist.refl A).append (List.sublist_cons_self d B)).map _).mem hc
theorem SameC.dropNo {S : List Core} {l : List DE} {sn : Int} (h : SameC S (l.map DE.core)) (hn : ∀ d ∈ l, d.p.sn ≠ sn) : SameC (dropS S sn) (l.map DE.core) := by
  have e : dropS S sn = S := by
    unfold dropS
    refine List.filter_eq_self.2 fun c hc => decide_eq_true ?_
    exact core_no hn c (h.perm.mem_iff.1 hc)
  rw [e]; exact h
theorem SameC.updNo {S : List Core} {l : List DE} {sn : Int} {f : Core → Core} (h : SameC S (l.map DE.core)) (hn : ∀ d ∈ l, d.p.sn ≠ sn) : SameC (updC sn f S) (l.map DE.core) := by
  have e : updC sn f S = S := by
    unfold updC
    conv => rhs; rw [← List.map_id S]
    refine List.map_congr_left fun c hc => ?_
    rw [if_neg (core_no hn c (h.perm.mem_iff.1 hc))]; rfl
  rw [e]; exact h
theorem SameC.upd {S : List Core} {A B : List DE} {d d' : DE} {f : Core → Core} (h : SameC S ((A ++ d :: B).map DE.core)) (hf : d'.core = f d.core) (hp : d'.p = d.p) (hso : SOk d'.m) : SameC (updC d.p.sn f S) ((A ++ d' :: B).map DE.core) := by
  obtain ⟨n1, n2⟩ := h.split
  have e0 : ∀ C : List DE, (∀ y ∈ C, y.p.sn ≠ d.p.sn) → updC d.p.sn f (C.map DE.core) = C.map DE.core := fun C hC => by
    unfold updC
    rw [List.map_map]
    refine List.map_congr_left fun y hy => ?_
    show (if y.p.sn = d.p.sn then f y.core else y.core) = y.core
    rw [if_neg (hC y hy)]
  have e : updC d.p.sn f ((A ++ d :: B).map DE.core) = (A ++ d' :: B).map DE.core := by
    have e1 := e0 A n1
    have e2 := e0 B n2
    unfold updC at e1 e2 ⊢
    rw [List.map_append, List.map_append, List.map_append, List.map_cons, List.map_cons, List.map_cons, e1, e2, hf]
    rw [if_pos (show d.core.1.sn = d.p.sn from rfl)]
  refine SameC.of ?_ ?_ ?_
  · rw [← e]; exact h.perm.map _
  · have := h.up
    have e3 : snC d'.core = snC d.core := congrArg Pk.sn hp
    simp only [List.map_append, List.map_cons, e3] at this ⊢
    exact this
  · intro c hc
    rw [List.map_append, List.map_cons] at hc
    rcases List.mem_append.1 hc with hc | hc
    · exact h.so c (by rw [List.map_append]; exact List.mem_append.2 (.inl hc))
    · rcases List.mem_cons.1 hc with rfl | hc
      · exact hso
      · exact h.so c (by rw [List.map_append, List.map_cons]; exact List.mem_append.2 (.inr (List.mem_cons_of_mem _ hc)))
theorem againS_ok {n a b : Int} {l : List Sp} (h : SOk l) : SOk (againS n a b l) := by
  unfold againS againL
  split
  · split
    · exact h.add _
    · exact h.add _
  · exact h
theorem sentL_ok {n a b : Int} {l : List Sp} (h : SOk l) : SOk (sentL n a b l) := by
  unfold sentL
  split
  · exact h.tak _
  · exact h
/-- Both stores, one of which may be ahead. -/
structure MidS (σb : AHeap) (ist ix : Nat) (wd : Int) (k k2 : Nat) (P : List Core → Prop) (f : List Core → List Core) (G : List HE) (τ : AHeap) : Prop where
  ex : ∃ im X w l Er S, P S ∧ X.map PS.core = f S ∧ RD w l Er ∧ Hp σb (SDx ist im wd X ++ (.o ix (.cells [i64v wd, w]) :: (Er ++ (flatE l ++ G)))) τ ∧ SOkx X ∧ (∀ d ∈ l, d.Ok) ∧ SameC S (l.map DE.core) ∧ X.length ≤ k2 ∧ l.length ≤ k ∧ ∀ d ∈ l, 0 ≤ d.c ∧ d.c ≤ k
abbrev Both (σb : AHeap) (ist ix : Nat) (wd : Int) (k : Nat) (G : List HE) (τ : AHeap) : Prop := MidS σb ist ix wd k k (fun _ => True) id G τ
section
variable {σb τ : AHeap} {ist ix : Nat} {wd : Int} {k : Nat} {G : List HE}
theorem de_tok {l : List DE} (hok : ∀ d ∈ l, d.Ok) {A B : List HE} {τ : AHeap} (H : Hp σb (A ++ (flatE l ++ B)) τ) {d : DE} (hd : d ∈ l) : TOk τ d.v d.L := by
  obtain ⟨P, Q, rfl⟩ := List.append_of_mem hd
  rw [flatE_append, flatE_cons, List.append_assoc, List.append_assoc, ← List.append_assoc] at H
  exact (hok d (by simp)).rt.dv H
theorem MidS.push {k2 : Nat} {P : List Core → Prop} {f : List Core → List Core} {E : List HE} {τ' : AHeap} (M : MidS σb ist ix wd k k2 P f G τ) (N : Hp τ E τ') : MidS σb ist ix wd k k2 P f (E ++ G) τ' := by
  obtain ⟨im, X, w, l, Er, S, hP, hS, hr, H, h⟩ := M
  have H := H.join N
  have H := Hp.mid (A := E) (B := SDx ist im wd X ++ (.o ix (.cells [i64v wd, w]) :: (Er ++ flatE l))) (C := G) (by simp only [List.append_assoc, List.cons_append] at H ⊢; exact H)
  simp only [List.append_assoc, List.cons_append] at H
  exact ⟨im, X, w, l, Er, S, hP, hS, hr, H, h⟩
theorem MidS.pop {k2 : Nat} {P : List Core → Prop} {f : List Core → List Core} {E : List HE} (M : MidS σb ist ix wd k k2 P f (E ++ G) τ) : MidS σb ist ix wd k k2 P f G τ := by
  obtain ⟨im, X, w, l, Er, S, hP, hS, hr, H, h⟩ := M
  have H := Hp.mid (A := SDx ist im wd X ++ (.o ix (.cells [i64v wd, w]) :: (Er ++ flatE l))) (B := E) (C := G) (by simp only [List.append_assoc, List.cons_append] at H ⊢; exact H)
  have H := Hp.rest (A := E) H
  simp only [List.append_assoc, List.cons_append] at H
  exact ⟨im, X, w, l, Er, S, hP, hS, hr, H, h⟩
theorem MidS.at_ {k2 : Nat} {P : List Core → Prop} {f : List Core → List Core} {i : Nat} {c : AObj} (M : MidS σb ist ix wd k k2 P f (.o i c :: G) τ) : τ i = some c := by
  obtain ⟨im, X, w, l, Er, S, hP, hS, hr, H, h⟩ := M
  exact H.ok (.o i c) (by simp)
theorem MidS.heap {k2 : Nat} {P : List Core → Prop} {f : List Core → List Core} (M : MidS σb ist ix wd k k2 P f G τ) : Hp σb [] τ := by
  obtain ⟨im, X, w, l, Er, S, hP, hS, hr, H, h⟩ := M
  exact H.left (L := [])
theorem bClear1 (h : Both σb ist ix wd k G τ) : ACalls Try.prog i_sent_Store_Clear [.ptr ist 0] τ fun v σ' =>
    v = .tup [] ∧ ∃ im w G2, w.isCell = true ∧ Hp σb (.o ist (.cells (stC wd im)) :: .o im (.map []) :: .o ix (.cells [i64v wd, w]) :: (G2 ++ G)) σ' := by
  obtain ⟨im, X, w, l, Er, S, -, hS, hr, H, ok, hok, hsame, hX, hl, hc⟩ := h
  refine acall_less (pClear H) ?_
  rintro _ σ' ⟨rfl, im', H'⟩
  exact ⟨_, _, VLe.refl _, Sub.refl _, rfl, im', w, Er ++ flatE l, hr.isCell, by rw [List.append_assoc]; exact H'⟩
theorem bMade {im : Nat} {G2 : List HE} (H : Hp σb (.o ist (.cells (stC wd im)) :: .o im (.map []) :: .o ix (.cells [i64v wd, .slice 9 [] .full]) :: (G2 ++ G)) τ) : Both σb ist ix wd k G τ := by
  have H := Hp.mid (A := [_, _, _]) (B := G2) (C := G) H
  have H := Hp.rest (A := G2) H
  exact ⟨im, [], .slice 9 [] .full, [], [], [], trivial, rfl, .nil, H, ⟨.nil, nofun, Nat.zero_le _⟩, nofun, ⟨.refl _, .nil, .nil, nofun⟩, Nat.zero_le _, Nat.zero_le _, nofun⟩
theorem MidS.more {k2 : Nat} (M : Both σb ist ix wd k G τ) (h : k ≤ k2) : Both σb ist ix wd k2 G τ := by
  obtain ⟨im, X, w, l, Er, S, hP, hS, hr, H, ok, hok, hsame, hX, hl, hc⟩ := M
  exact ⟨im, X, w, l, Er, S, hP, hS, hr, H, ok, hok, hsame, by omega, by omega, fun d hd => ⟨(hc d hd).1, by have := (hc d hd).2; omega⟩⟩
theorem bTells (h : Both σb ist ix wd k G τ) (hk : k ≤ 900) : ACalls Try.prog i_bowlinelaw19_tells [.ptr ist 0, .ptr ix 0] τ fun v σ' => v = boolv true ∧ Both σb ist ix wd k G σ' ∧ Ext τ σ' := by
  obtain ⟨im, X, w, l, Er, S, -, hS, hr, H, ok, hok, hsame, hX, hl, hc⟩ := h
  have hS : X.map PS.core = S := hS
  subst hS
  have hb1 : τ ix = some (.cells [i64v wd, w]) := H.ok _ (List.mem_append.2 (.inr (List.mem_cons_self ..)))
  have hw : DVw τ w l := hr.vw (F := SDx ist im wd X ++ [.o ix (.cells [i64v wd, w])]) (G := flatE l ++ G) (by rw [List.append_assoc]; exact H)
  have hT : ∀ d ∈ l, TOk τ d.v d.L := fun d hd => de_tok hok (A := SDx ist im wd X ++ ([.o ix (.cells [i64v wd, w])] ++ Er)) (B := G) (by rw [List.append_assoc, List.append_assoc]; exact H) hd
  refine acall_less (tells19 H ok hb1 hw hok hT (by omega) hsame fun d hd => ⟨(hc d hd).1, by have := (hc d hd).2; omega⟩) ?_
  rintro _ σ' ⟨rfl, N⟩
  exact ⟨_, _, VLe.refl _, Sub.refl _, rfl, ⟨im, X, w, l, Er, _, trivial, rfl, hr, H.later N, ok, hok, hsame, hX, hl, hc⟩, N.ext⟩
theorem bPut1 (h : Both σb ist ix wd k G τ) (hk : k ≤ 900) (p : Pk) (hsn : inR p.sn) (hl : p.fs.length ≤ 1000) (ht : total p.fs ≤ 140737488355328) : ACalls Try.prog i_sent_Store_Put [.ptr ist 0, amV p] τ fun v σ' =>
    ∃ q : Int, v = i64v q ∧ MidS σb ist ix wd k (k + 1) (fun S => q = putCC p wd S) (putSS p wd) G σ' := by
  obtain ⟨im, X, w, l, Er, S, -, hS, hr, H, ok, hok, hsame, hX, hll, hc⟩ := h
  have hS : X.map PS.core = S := hS
  subst hS
  refine acall_less (pPut H ok (by omega) p hsn hl ht) ?_
  rintro _ σ' ⟨rfl, X', H', ok', hX', hln⟩
  exact ⟨_, _, VLe.refl _, Sub.refl _, _, rfl, ⟨im, X', w, l, Er, _, rfl, hX', hr, H', ok', hok, hsame, by omega, hll, hc⟩⟩
theorem CellsOk.of {l : List DE} (h : ∀ d ∈ l, d.Ok) : CellsOk l := fun d hd => (h d hd).rt.isCell
theorem rel_nilS : Rel [] [] := ⟨Nat.zero_le _, fun p => ⟨fun ⟨a, ha, _⟩ => (by cases ha), fun h => absurd (bitT_lt h.2) (Nat.not_lt_zero _)⟩⟩
theorem new_ok {p : Pk} (hsn : inR p.sn) (hl : p.fs.length ≤ 1000) (ht : total p.fs ≤ 4000) : (newD p).Ok := ⟨.nil, rel_nilS, SOk.nil, hl, ht, hsn⟩
theorem bPut2 {q : Int} {p : Pk} (h : MidS σb ist ix wd k (k + 1) (fun S => q = putCC p wd S) (putSS p wd) G τ) (hk : k ≤ 900) (hsn : inR p.sn) (hl : p.fs.length ≤ 1000) (ht : total p.fs ≤ 1000000) : ACalls Try.prog i_bowlineref19_Store_Put [.ptr ix 0, amV p] τ fun v σ' =>
    v = i64v q ∧ Both σb ist ix wd (k + 1) G σ' := by
  obtain ⟨im, X, w, l, Er, S, hq, hS, hr, H, ok, hok, hsame, hX, hll, hc⟩ := h
  have hq : q = putCC p wd S := hq
  have hS : X.map PS.core = putSS p wd S := hS
  have H : Hp σb (.o ix (.cells [i64v wd, w]) :: (Er ++ (SDx ist im wd X ++ (flatE l ++ G)))) τ := Hp.mid (A := SDx ist im wd X) (B := .o ix (.cells [i64v wd, w]) :: Er) (C := flatE l ++ G) H
  have hqe := put_same hsame p wd
  refine acall_less (dPut hr H (by omega) (CellsOk.of hok) p hl ht) ?_
  rintro _ σ' ⟨rfl, w', l', Er', hr', H', hcase⟩
  rw [← hqe, ← hq] at hcase ⊢
  have H' : Hp σb (SDx ist im wd X ++ (.o ix (.cells [i64v wd, w']) :: (Er' ++ (flatE l ++ G)))) σ' := Hp.mid (A := .o ix (.cells [i64v wd, w']) :: Er') (B := SDx ist im wd X) (C := flatE l ++ G) H'
  refine ⟨_, _, VLe.refl _, Sub.refl _, rfl, ?_⟩
  unfold putSS at hS
  rw [← hq] at hS
  rcases hcase with ⟨h0, rfl⟩ | ⟨h0, A, B, rfl, hA, hB, rfl⟩
  · rw [if_neg h0] at hS
    exact ⟨im, X, w', l', Er', S, trivial, hS, hr', H', ok, hok, hsame, hX, by omega, fun d hd => ⟨(hc d hd).1, by have := (hc d hd).2; omega⟩⟩
  · rw [if_pos h0] at hS
    have hnf : ∀ d ∈ A ++ B, d.p.sn ≠ p.sn := by
      rw [hq, hqe] at h0
      unfold dPutC at h0
      rcases findD_spec (A ++ B) p.sn with ⟨h1, h2⟩ | ⟨A', d, B', hl', h1, h2, h3⟩
      · exact h2
      · rw [h1, if_pos (c := ((A'.length : Nat) : Int) ≥ 0) (by omega)] at h0
        split at h0 <;> cases h0
    have ht4 : total p.fs ≤ 4000 := by
      have hx : p ∈ (X.map PS.core).map (·.1) := by rw [hS]; simp
      obtain ⟨c, hcm, hcp⟩ := List.mem_map.1 hx
      obtain ⟨x, hxm, rfl⟩ := List.mem_map.1 hcm
      have := (ok.ok x hxm).tot
      rw [show x.p = p from hcp] at this
      exact this
    refine ⟨im, X, w', A ++ newD p :: B, Er', _, trivial, hS, hr', ?_, ok, fun d hd => ?_, hsame.put hA hB hnf, hX, ?_, fun d hd => ?_⟩
    · rw [flatE_append, flatE_cons]
      rw [flatE_append] at H'
      exact H'
    · rcases List.mem_append.1 hd with hd | hd
      · exact hok d (List.mem_append.2 (.inl hd))
      · rcases List.mem_cons.1 hd with rfl | hd
        · exact new_ok hsn hl ht4
        · exact hok d (List.mem_append.2 (.inr hd))
    · rw [List.length_append, List.length_cons]; rw [List.length_append] at hll; omega
    · have hcc : ∀ d ∈ A ++ B, 0 ≤ d.c ∧ d.c ≤ ((k + 1 : Nat) : Int) := fun d hd => ⟨(hc d hd).1, by have := (hc d hd).2; omega⟩
      rcases List.mem_append.1 hd with hd | hd
      · exact hcc d (List.mem_append.2 (.inl hd))
      · rcases List.mem_cons.1 hd with rfl | hd
        · exact ⟨Int.le_refl _, by show (0 : Int) ≤ _; omega⟩
        · exact hcc d (List.mem_append.2 (.inr hd))
theorem counts_of {X : List PS} {l : List DE} (hs : SameC (X.map PS.core) (l.map DE.core)) (hc : ∀ d ∈ l, 0 ≤ d.c ∧ d.c ≤ (k : Int)) : ∀ x ∈ X, x.c ≤ k := fun x hx => by
  obtain ⟨d, hd, he⟩ := List.mem_map.1 (hs.perm.mem_iff.1 (List.mem_map_of_mem (f := PS.core) hx))
  rw [show x.c = d.c from (congrArg (fun c : Core => c.2.2) he).symm]
  exact (hc d hd).2
theorem upd_len {sn : Int} {f : Core → Core} {X X' : List PS} (h : X'.map PS.core = updC sn f (X.map PS.core)) : X'.length = X.length := by
  have := congrArg List.length h
  unfold updC at this
  simpa using this
theorem bAgain1 (h : Both σb ist ix wd k G τ) (hk : k ≤ 900) (sn a b : Int) : ACalls Try.prog i_sent_Store_Again [.ptr ist 0, i64v sn, i64v a, i64v b] τ fun v σ' =>
    ∃ q : Int × Int, v = .tup [i64v q.1, i64v q.2] ∧ MidS σb ist ix wd k k (fun S => q = againR S sn a b) (updC sn (againC a b)) G σ' := by
  obtain ⟨im, X, w, l, Er, S, -, hS, hr, H, ok, hok, hsame, hX, hll, hc⟩ := h
  have hS : X.map PS.core = S := hS
  subst hS
  refine acall_less (pAgain H ok (fun x hx => by have := counts_of hsame hc x hx; omega) sn a b) ?_
  rintro _ σ' ⟨rfl, X', H', ok', hX'⟩
  exact ⟨_, _, VLe.refl _, Sub.refl _, _, rfl, ⟨im, X', w, l, Er, _, rfl, hX', hr, H', ok', hok, hsame, by have := upd_len hX'; omega, hll, hc⟩⟩
theorem bSent1 (h : Both σb ist ix wd k G τ) (hk : k ≤ 900) (sn a b : Int) : ACalls Try.prog i_sent_Store_Sent [.ptr ist 0, i64v sn, i64v a, i64v b] τ fun v σ' =>
    ∃ q : Int, v = i64v q ∧ MidS σb ist ix wd k k (fun S => q = sentR S sn a b) (updC sn (sentC a b)) G σ' := by
  obtain ⟨im, X, w, l, Er, S, -, hS, hr, H, ok, hok, hsame, hX, hll, hc⟩ := h
  have hS : X.map PS.core = S := hS
  subst hS
  refine acall_less (pSent H ok sn a b) ?_
  rintro _ σ' ⟨rfl, X', H', ok', hX'⟩
  exact ⟨_, _, VLe.refl _, Sub.refl _, _, rfl, ⟨im, X', w, l, Er, _, rfl, hX', hr, H', ok', hok, hsame, by have := upd_len hX'; omega, hll, hc⟩⟩
theorem bDrop1 (h : Both σb ist ix wd k G τ) (hk : k ≤ 900) (sn : Int) : ACalls Try.prog i_sent_Store_Drop [.ptr ist 0, i64v sn] τ fun v σ' =>
    ∃ q : Int, v = i64v q ∧ MidS σb ist ix wd k k (fun S => q = dropR S sn) (fun S => dropS S sn) G σ' := by
  obtain ⟨im, X, w, l, Er, S, -, hS, hr, H, ok, hok, hsame, hX, hll, hc⟩ := h
  have hS : X.map PS.core = S := hS
  subst hS
  refine acall_less (pDrop H ok sn) ?_
  rintro _ σ' ⟨rfl, X', H', ok', hX'⟩
  refine ⟨_, _, VLe.refl _, Sub.refl _, _, rfl, ⟨im, X', w, l, Er, _, rfl, hX', hr, H', ok', hok, hsame, ?_, hll, hc⟩⟩
  have := congrArg List.length hX'
  have h2 := List.length_filter_le (fun c : Core => decide (c.1.sn ≠ sn)) (X.map PS.core)
  unfold dropS at this
  rw [List.length_map] at this h2
  omega
theorem bDrop2 {q sn : Int} (h : MidS σb ist ix wd k k (fun S => q = dropR S sn) (fun S => dropS S sn) G τ) (hk : k ≤ 900) : ACalls Try.prog i_bowlineref19_Store_Drop [.ptr ix 0, i64v sn] τ fun v σ' =>
    v = i64v q ∧ Both σb ist ix wd k G σ' := by
  obtain ⟨im, X, w, l, Er, S, hq, hS, hr, H, ok, hok, hsame, hX, hll, hc⟩ := h
  have hq : q = dropR S sn := hq
  have hS : X.map PS.core = dropS S sn := hS
  have H : Hp σb (.o ix (.cells [i64v wd, w]) :: (Er ++ (SDx ist im wd X ++ (flatE l ++ G)))) τ := Hp.mid (A := SDx ist im wd X) (B := .o ix (.cells [i64v wd, w]) :: Er) (C := flatE l ++ G) H
  refine acall_less (dDrop hr H (by omega) (CellsOk.of hok) sn) ?_
  rintro _ σ' ⟨rfl, w', l', Er', hr', H', hcase⟩
  have H' : Hp σb (SDx ist im wd X ++ (.o ix (.cells [i64v wd, w']) :: (Er' ++ (flatE l ++ G)))) σ' := Hp.mid (A := .o ix (.cells [i64v wd, w']) :: Er') (B := SDx ist im wd X) (C := flatE l ++ G) H'
  unfold dropR at hq
  rcases hcase with ⟨h0, rfl⟩ | ⟨A, d, B, rfl, hd, rfl⟩
  · have hno : ∀ d ∈ l', d.p.sn ≠ sn := by
      rcases findD_spec l' sn with ⟨h1, h2⟩ | ⟨A', d, B', hl', h1, h2, h3⟩
      · exact h2
      · omega
    rw [findC_none hsame (core_no hno), if_pos rfl] at hq
    rw [if_neg (by omega)]
    exact ⟨_, _, VLe.refl _, Sub.refl _, by rw [hq], ⟨im, X, w', l', Er', _, trivial, hS, hr', H', ok, hok, hsame.dropNo hno, hX, hll, hc⟩⟩
  · subst hd
    have hf : findD (A ++ d :: B) d.p.sn ≥ 0 := by
      rcases findD_spec (A ++ d :: B) d.p.sn with ⟨h1, h2⟩ | ⟨A', d', B', hl', h1, h2, h3⟩
      · exact absurd rfl (h2 d (by simp))
      · omega
    have := findC_some hsame (c := d.core) (List.mem_map_of_mem (by simp))
    rw [show snC d.core = d.p.sn from rfl] at this
    rw [this, if_neg (by simp)] at hq
    rw [if_pos hf]
    refine ⟨_, _, VLe.refl _, Sub.refl _, by rw [hq], ⟨im, X, w', A ++ B, Er', _, trivial, hS, hr', ?_, ok, fun x hx => hok x ?_, hsame.drop, hX, by rw [List.length_append] at hll ⊢; rw [List.length_cons] at hll; omega, fun x hx => hc x ?_⟩⟩
    · rw [flatE_append, flatE_cons] at H'
      have H' := Hp.mid (A := SDx ist im wd X ++ (.o ix (.cells [i64v wd, w']) :: (Er' ++ flatE A))) (B := d.E) (C := flatE B ++ G) (by simp only [List.append_assoc, List.cons_append] at H' ⊢; exact H')
      have H' := Hp.rest (A := d.E) H'
      rw [flatE_append]
      simp only [List.append_assoc, List.cons_append] at H' ⊢
      exact H'
    · rcases List.mem_append.1 hx with hx | hx
      · exact List.mem_append.2 (.inl hx)
      · exact List.mem_append.2 (.inr (List.mem_cons_of_mem _ hx))
    · rcases List.mem_append.1 hx with hx | hx
      · exact List.mem_append.2 (.inl hx)
      · exact List.mem_append.2 (.inr (List.mem_cons_of_mem _ hx))
/-- An entry that has become another one, in its place. -/
theorem becomes {im : Nat} {X : List PS} {r : Nat} {A B : List DE} {d d' : DE} {m : List Sp} {c : Int} {E : List HE} {n : Nat} (D : DTo d d' m c E) (H : Hp σb (E ++ (.o ix (.cells [i64v wd, .ms r 9 0 n]) :: .o r (.cells (deC (A ++ d' :: B))) :: (SDx ist im wd X ++ (flatE (A ++ d :: B) ++ G)))) τ) :
    Hp σb (SDx ist im wd X ++ (.o ix (.cells [i64v wd, .ms r 9 0 n]) :: ([.o r (.cells (deC (A ++ d' :: B)))] ++ (flatE (A ++ d' :: B) ++ G)))) τ := by
  rcases D.e with ⟨rfl, _, _, he⟩ | ⟨_, rfl⟩
  · have e : flatE (A ++ d' :: B) = flatE (A ++ d :: B) := by rw [flatE_append, flatE_append, flatE_cons, flatE_cons, he]
    rw [e]
    exact Hp.mid (A := [.o ix _, .o r _]) (B := SDx ist im wd X) (C := flatE (A ++ d :: B) ++ G) H
  · rw [flatE_append, flatE_cons] at H
    have H := Hp.mid (A := d'.E ++ (.o ix (.cells [i64v wd, .ms r 9 0 n]) :: .o r (.cells (deC (A ++ d' :: B))) :: (SDx ist im wd X ++ flatE A))) (B := d.E) (C := flatE B ++ G) (by simp only [List.append_assoc, List.cons_append] at H ⊢; exact H)
    have H := Hp.rest (A := d.E) H
    rw [flatE_append, flatE_cons]
    simp only [List.append_assoc, List.cons_append] at H
    have H := Hp.mid (A := d'.E) (B := .o ix (.cells [i64v wd, .ms r 9 0 n]) :: .o r (.cells (deC (A ++ d' :: B))) :: (SDx ist im wd X ++ flatE A)) (C := flatE B ++ G) (by simp only [List.append_assoc, List.cons_append]; exact H)
    simp only [List.append_assoc, List.cons_append] at H
    have H := Hp.mid (A := [.o ix _, .o r _]) (B := SDx ist im wd X) (C := flatE A ++ (d'.E ++ (flatE B ++ G))) H
    simp only [List.append_assoc, List.cons_append, List.nil_append] at H ⊢
    exact H
theorem ok_becomes {d d' : DE} {m : List Sp} {c : Int} {E : List HE} (D : DTo d d' m c E) (ok : d.Ok) (hm : SOk m) : d'.Ok := by
  have hp := D.p
  refine ⟨?_, D.r, by rw [D.m]; exact hm, by rw [hp]; exact ok.fl, by rw [hp]; exact ok.tot, by rw [hp]; exact ok.sn⟩
  rcases D.e with ⟨_, h1, h2, h3⟩ | ⟨h, _⟩
  · rw [h1, h2, h3]; exact ok.rt
  · exact h
theorem core_becomes {d d' : DE} {m : List Sp} {c : Int} {E : List HE} (D : DTo d d' m c E) : d'.core = (d.p, m, c) := by
  show (d'.p, d'.m, d'.c) = _
  rw [D.p, D.m, D.c]
theorem bAgain2 {q : Int × Int} {sn a b : Int} (h : MidS σb ist ix wd k k (fun S => q = againR S sn a b) (updC sn (againC a b)) G τ) (hk : k ≤ 900) : ACalls Try.prog i_bowlineref19_Store_Again [.ptr ix 0, i64v sn, i64v a, i64v b] τ fun v σ' =>
    v = .tup [i64v q.1, i64v q.2] ∧ Both σb ist ix wd (k + 1) G σ' := by
  obtain ⟨im, X, w, l, Er, S, hq, hS, hr, H, ok, hok, hsame, hX, hll, hc⟩ := h
  have hq : q = againR S sn a b := hq
  have hS : X.map PS.core = updC sn (againC a b) S := hS
  have H : Hp σb (.o ix (.cells [i64v wd, w]) :: (Er ++ (SDx ist im wd X ++ (flatE l ++ G)))) τ := Hp.mid (A := SDx ist im wd X) (B := .o ix (.cells [i64v wd, w]) :: Er) (C := flatE l ++ G) H
  unfold againR at hq
  rcases findD_spec l sn with ⟨h1, h2⟩ | ⟨A, d, B, rfl, h1, h2, h3⟩
  · rw [findC_none hsame (core_no h2)] at hq
    have hw : DVw τ w l := hr.vw (F := [.o ix (.cells [i64v wd, w])]) (G := SDx ist im wd X ++ (flatE l ++ G)) H
    refine acall_less (dAgainNone (H.get (k := 0) rfl) hw (by omega) sn a b h1) ?_
    rintro _ σ' ⟨rfl, rfl⟩
    exact ⟨_, _, VLe.refl _, Sub.refl _, by rw [hq], ⟨im, X, w, l, Er, _, trivial, hS, hr, Hp.mid (A := .o ix (.cells [i64v wd, w]) :: Er) (B := SDx ist im wd X) (C := flatE l ++ G) H, ok, hok, hsame.updNo h2, by omega, by omega, fun d hd => ⟨(hc d hd).1, by have := (hc d hd).2; omega⟩⟩⟩
  · subst h2
    have hd : d ∈ A ++ d :: B := by simp
    have hcd := hc d hd
    have hf := findC_some hsame (c := d.core) (List.mem_map_of_mem hd)
    rw [show snC d.core = d.p.sn from rfl] at hf
    rw [hf] at hq
    obtain ⟨r, rfl, rfl⟩ := hr.row_of (by simp)
    refine acall_less (dAgain (F := SDx ist im wd X ++ (flatE (A ++ d :: B) ++ G)) H (hok d hd) (by omega) h1 (fun G2 τ2 H2 => de_tok hok (A := G2 ++ SDx ist im wd X) (B := G) (by rw [List.append_assoc]; exact H2) hd) ⟨hcd.1, by omega⟩ a b) ?_
    rintro _ σ' ⟨rfl, d', E, D, H'⟩
    have hok' := ok_becomes D (hok d hd) (againS_ok (hok d hd).so)
    have hln : (A ++ d' :: B).length = (A ++ d :: B).length := by simp
    have hcl := againN_le (n := (total d.p.fs : Int)) (a := a) (b := b) (c := d.c) (l := d.m)
    have h2 := becomes D H'
    refine ⟨_, _, VLe.refl _, Sub.refl _, by rw [hq]; rfl, ⟨im, X, .ms r 9 0 (A ++ d :: B).length, A ++ d' :: B, [.o r (.cells (deC (A ++ d' :: B)))], _, trivial, hS, ?_, h2, ok, fun x hx => ?_, hsame.upd (f := againC a b) (core_becomes D) D.p hok'.so, by omega, by omega, fun x hx => ?_⟩⟩
    · rw [← hln]; exact .row r _ (by simp)
    · rcases List.mem_append.1 hx with hx | hx
      · exact hok x (List.mem_append.2 (.inl hx))
      · rcases List.mem_cons.1 hx with rfl | hx
        · exact hok'
        · exact hok x (List.mem_append.2 (.inr (List.mem_cons_of_mem _ hx)))
    · have hcc : ∀ x ∈ A ++ d :: B, 0 ≤ x.c ∧ x.c ≤ ((k + 1 : Nat) : Int) := fun d hd => ⟨(hc d hd).1, by have := (hc d hd).2; omega⟩
      rcases List.mem_append.1 hx with hx | hx
      · exact hcc x (List.mem_append.2 (.inl hx))
      · rcases List.mem_cons.1 hx with rfl | hx
        · rw [D.c]; omega
        · exact hcc x (List.mem_append.2 (.inr (List.mem_cons_of_mem _ hx)))
theorem bSent2 {q : Int} {sn a b : Int} (h : MidS σb ist ix wd k k (fun S => q = sentR S sn a b) (updC sn (sentC a b)) G τ) (hk : k ≤ 900) : ACalls Try.prog i_bowlineref19_Store_Sent [.ptr ix 0, i64v sn, i64v a, i64v b] τ fun v σ' =>
    v = i64v q ∧ Both σb ist ix wd k G σ' := by
  obtain ⟨im, X, w, l, Er, S, hq, hS, hr, H, ok, hok, hsame, hX, hll, hc⟩ := h
  have hq : q = sentR S sn a b := hq
  have hS : X.map PS.core = updC sn (sentC a b) S := hS
  have H : Hp σb (.o ix (.cells [i64v wd, w]) :: (Er ++ (SDx ist im wd X ++ (flatE l ++ G)))) τ := Hp.mid (A := SDx ist im wd X) (B := .o ix (.cells [i64v wd, w]) :: Er) (C := flatE l ++ G) H
  unfold sentR at hq
  rcases findD_spec l sn with ⟨h1, h2⟩ | ⟨A, d, B, rfl, h1, h2, h3⟩
  · rw [findC_none hsame (core_no h2)] at hq
    have hw : DVw τ w l := hr.vw (F := [.o ix (.cells [i64v wd, w])]) (G := SDx ist im wd X ++ (flatE l ++ G)) H
    refine acall_less (dSentNone (H.get (k := 0) rfl) hw (by omega) sn a b h1) ?_
    rintro _ σ' ⟨rfl, rfl⟩
    exact ⟨_, _, VLe.refl _, Sub.refl _, by rw [hq], ⟨im, X, w, l, Er, _, trivial, hS, hr, Hp.mid (A := .o ix (.cells [i64v wd, w]) :: Er) (B := SDx ist im wd X) (C := flatE l ++ G) H, ok, hok, hsame.updNo h2, hX, hll, hc⟩⟩
  · subst h2
    have hd : d ∈ A ++ d :: B := by simp
    have hcd := hc d hd
    have hf := findC_some hsame (c := d.core) (List.mem_map_of_mem hd)
    rw [show snC d.core = d.p.sn from rfl] at hf
    rw [hf] at hq
    obtain ⟨r, rfl, rfl⟩ := hr.row_of (by simp)
    refine acall_less (dSent (F := SDx ist im wd X ++ (flatE (A ++ d :: B) ++ G)) H (hok d hd) (by omega) h1 (fun G2 τ2 H2 => de_tok hok (A := G2 ++ SDx ist im wd X) (B := G) (by rw [List.append_assoc]; exact H2) hd) a b) ?_
    rintro _ σ' ⟨rfl, d', E, D, H'⟩
    have hok' := ok_becomes D (hok d hd) (sentL_ok (hok d hd).so)
    have hln : (A ++ d' :: B).length = (A ++ d :: B).length := by simp
    have h2 := becomes D H'
    refine ⟨_, _, VLe.refl _, Sub.refl _, by rw [hq], ⟨im, X, .ms r 9 0 (A ++ d :: B).length, A ++ d' :: B, [.o r (.cells (deC (A ++ d' :: B)))], _, trivial, hS, ?_, h2, ok, fun x hx => ?_, hsame.upd (f := sentC a b) (core_becomes D) D.p hok'.so, hX, by omega, fun x hx => ?_⟩⟩
    · rw [← hln]; exact .row r _ (by simp)
    · rcases List.mem_append.1 hx with hx | hx
      · exact hok x (List.mem_append.2 (.inl hx))
      · rcases List.mem_cons.1 hx with rfl | hx
        · exact hok'
        · exact hok x (List.mem_append.2 (.inr (List.mem_cons_of_mem _ hx)))
    · rcases List.mem_append.1 hx with hx | hx
      · exact hc x (List.mem_append.2 (.inl hx))
      · rcases List.mem_cons.1 hx with rfl | hx
        · rw [D.c]; exact hcd
        · exact hc x (List.mem_append.2 (.inr (List.mem_cons_of_mem _ hx)))
end
end Go.Proofs.Ytgobbmdbkmjlnaa
/-
  What is kept to be sent again: a store that is nil, or that no call made.
-/
namespace Go.Proofs.Ytgobbmdbkmjlnaa
set_option linter.unusedVariables false
set_option linter.unusedSimpArgs false
set_option maxRecDepth 20000
open Go Go.Am

inductive NoSt : AHeap → AVal → Prop
  | nil {σ : AHeap} : NoSt σ (.v (.pointer none))
  | zero {σ : AHeap} (iz : Nat) : σ iz = some (.cells [i64v 0, .v (.map none)]) → NoSt σ (.ptr iz 0)
theorem nSort (t : Tok) (σ : AHeap) : ACalls Try.prog 72 [.slice 1 [] t] σ fun v σ' => v = .tup [] ∧ σ' = σ := by
  rw [ACalls_def]
  intro κ w cargs hI hr
  cases hr with | cons h1 hr =>
  cases hr
  rename_i v1
  have h : ∃ p cap, v1 = .slice p 0 cap := by
    cases h1 with
    | nil => exact ⟨_, _, rfl⟩
    | slice hl _ _ _ _ _ => simp at hl; subst hl; exact ⟨_, _, rfl⟩
  obtain ⟨p, cap, rfl⟩ := h
  refine (nu_sort_none p cap w).mono ?_
  rintro e w' ⟨rfl, rfl⟩
  exact ⟨_, κ, σ, .tup [], rfl, Ghost.le.refl _, hI, .tup .nil, rfl, rfl⟩
section
variable {σ : AHeap} {a : AVal}
theorem NoSt.sub {τ : AHeap} (h : NoSt σ a) (s : Sub τ σ) : NoSt τ a := by
  cases h with
  | nil => exact .nil
  | zero iz b => exact .zero iz (s _ _ b)
theorem nMade (h : NoSt σ a) : ACalls Try.prog i_sent_Store_made [a] σ fun v σ' => v = boolv false ∧ σ' = σ := by
  refine k_sent_Store_made rfl ?_
  have H := Hp.nil σ
  cases h with
  | nil =>
    (refine wX ?_)
    (repeat ((first | refine zI (by omega) ?_ | refine zE (by omega) (by omega) ?_ | refine zD (by omega) (by omega) ?_ | refine zY (by omega) ?_ | refine zN (by omega) ?_ | refine amin ?_ | refine amax ?_ | refine zU (by omega) ?_ | refine z8 (by omega) ?_ | refine zX (by omega) (by omega) ?_ | refine zR rfl ?_ | refine acellA ?_ | refine zB H b1 rfl ?_ | refine zC H b1 ?_ | (apply zL H; (· repeat first | exact .h | apply AtK.t); (· rfl)) | (apply zA H; (· repeat first | exact .h | apply AtK.t)) | (apply zS H; (· repeat first | exact .h | apply AtK.t); (· rfl); (conv => whnf); clear H; intro τ H) | rw [List.length_map]); (refine wX ?_)))
    exact aret (VLe.refl _) (Sub.refl _) ⟨rfl, rfl⟩
  | zero iz b1 =>
    (refine wX ?_)
    (repeat ((first | refine zI (by omega) ?_ | refine zE (by omega) (by omega) ?_ | refine zD (by omega) (by omega) ?_ | refine zY (by omega) ?_ | refine zN (by omega) ?_ | refine amin ?_ | refine amax ?_ | refine zU (by omega) ?_ | refine z8 (by omega) ?_ | refine zX (by omega) (by omega) ?_ | refine zR rfl ?_ | refine acellA ?_ | refine zB H b1 rfl ?_ | refine zC H b1 ?_ | (apply zL H; (· repeat first | exact .h | apply AtK.t); (· rfl)) | (apply zA H; (· repeat first | exact .h | apply AtK.t)) | (apply zS H; (· repeat first | exact .h | apply AtK.t); (· rfl); (conv => whnf); clear H; intro τ H) | rw [List.length_map]); (refine wX ?_)))
    exact aret (VLe.refl _) (Sub.refl _) ⟨rfl, rfl⟩
theorem nFind (h : NoSt σ a) (sn : Int) : ACalls Try.prog i_sent_Store_find [a, i64v sn] σ fun v σ' => v = .tup [.v (.pointer none), i64v 6] ∧ σ' = σ := by
  refine k_sent_Store_find rfl ?_
  (refine wX ?_)
  refine acall (nMade h) ?_
  rintro _ σ_ ⟨rfl, e_⟩
  obtain rfl := e_.symm
  refine ⟨?_, Ext.refl _⟩
  (refine wX ?_)
  exact aret (VLe.refl _) (Sub.refl _) ⟨rfl, rfl⟩
theorem nAgain (h : NoSt σ a) (sn x y : Int) : ACalls Try.prog i_sent_Store_Again [a, i64v sn, i64v x, i64v y] σ fun v σ' => v = .tup [i64v 0, i64v 6] ∧ σ' = σ := by
  refine k_sent_Store_Again rfl ?_
  (refine wX ?_)
  refine acall (nFind h sn) ?_
  rintro _ σ_ ⟨rfl, e_⟩
  obtain rfl := e_.symm
  (refine wX ?_)
  exact aret (VLe.refl _) (Sub.refl _) ⟨rfl, rfl⟩
theorem nSent (h : NoSt σ a) (sn x y : Int) : ACalls Try.prog i_sent_Store_Sent [a, i64v sn, i64v x, i64v y] σ fun v σ' => v = i64v 6 ∧ σ' = σ := by
  refine k_sent_Store_Sent rfl ?_
  (refine wX ?_)
  refine acall (nFind h sn) ?_
  rintro _ σ_ ⟨rfl, e_⟩
  obtain rfl := e_.symm
  (refine wX ?_)
  exact aret (VLe.refl _) (Sub.refl _) ⟨rfl, rfl⟩
theorem nDrop (h : NoSt σ a) (sn : Int) : ACalls Try.prog i_sent_Store_Drop [a, i64v sn] σ fun v σ' => v = i64v 6 ∧ σ' = σ := by
  refine k_sent_Store_Drop rfl ?_
  (refine wX ?_)
  refine acall (nFind h sn) ?_
  rintro _ σ_ ⟨rfl, e_⟩
  obtain rfl := e_.symm
  (refine wX ?_)
  exact aret (VLe.refl _) (Sub.refl _) ⟨rfl, rfl⟩
theorem nCount (h : NoSt σ a) (sn : Int) : ACalls Try.prog i_sent_Store_Count [a, i64v sn] σ fun v σ' => v = i64v 0 ∧ σ' = σ := by
  refine k_sent_Store_Count rfl ?_
  (refine wX ?_)
  refine acall (nFind h sn) ?_
  rintro _ σ_ ⟨rfl, e_⟩
  obtain rfl := e_.symm
  (refine wX ?_)
  exact aret (VLe.refl _) (Sub.refl _) ⟨rfl, rfl⟩
theorem nDue (h : NoSt σ a) (sn : Int) : ACalls Try.prog i_sent_Store_Due [a, i64v sn] σ fun v σ' => v = .slice 2 [] .full ∧ σ' = σ := by
  refine k_sent_Store_Due rfl ?_
  (refine wX ?_)
  refine acall (nFind h sn) ?_
  rintro _ σ_ ⟨rfl, e_⟩
  obtain rfl := e_.symm
  (refine wX ?_)
  exact aret (VLe.refl _) (Sub.refl _) ⟨rfl, rfl⟩
theorem nClear (h : NoSt σ a) : ACalls Try.prog i_sent_Store_Clear [a] σ fun v σ' => v = .tup [] ∧ σ' = σ := by
  refine k_sent_Store_Clear rfl ?_
  (refine wX ?_)
  refine acall (nMade h) ?_
  rintro _ σ_ ⟨rfl, e_⟩
  obtain rfl := e_.symm
  refine ⟨?_, Ext.refl _⟩
  (refine wX ?_)
  exact aret (VLe.refl _) (Sub.refl _) ⟨rfl, rfl⟩
theorem nPut (h : NoSt σ a) : ACalls Try.prog i_sent_Store_Put [a, .agg [boolv false, i64v 0, i64v 0, boolv false, boolv false, i64v 0, .slice 1 [] .full]] σ fun v σ' => v = i64v 6 ∧ σ' = σ := by
  refine k_sent_Store_Put rfl ?_
  (refine wX ?_)
  have H := Hp.nil σ
  refine hnew H rfl ?_
  clear H
  intro i3 τ H
  (refine wX ?_)
  refine acall (nMade (h.sub H.sub)) ?_
  rintro _ σ_ ⟨rfl, e_⟩
  obtain rfl := e_.symm
  refine ⟨?_, Ext.refl _⟩
  (refine wX ?_)
  exact aret (VLe.refl _) H.sub ⟨rfl, rfl⟩
theorem nGet (h : NoSt σ a) (sn : Int) : ACalls Try.prog i_sent_Store_Get [a, i64v sn] σ fun v σ' => v = .tup [.agg [boolv false, i64v 0, i64v 0, boolv false, boolv false, i64v 0, .slice 1 [] .full], boolv false] ∧ σ' = σ := by
  refine k_sent_Store_Get rfl ?_
  (refine wX ?_)
  have H := Hp.nil σ
  refine hnew H rfl ?_
  clear H
  intro i4 τ H
  (refine wX ?_)
  refine acall (nFind (h.sub H.sub) sn) ?_
  rintro _ σ_ ⟨rfl, e_⟩
  obtain rfl := e_.symm
  (refine wX ?_)
  (repeat ((first | refine zI (by omega) ?_ | refine zE (by omega) (by omega) ?_ | refine zD (by omega) (by omega) ?_ | refine zY (by omega) ?_ | refine zN (by omega) ?_ | refine amin ?_ | refine amax ?_ | refine zU (by omega) ?_ | refine z8 (by omega) ?_ | refine zX (by omega) (by omega) ?_ | refine zR rfl ?_ | refine acellA ?_ | (apply zL H; (· repeat first | exact .h | apply AtK.t); (· rfl)) | (apply zA H; (· repeat first | exact .h | apply AtK.t)) | (apply zS H; (· repeat first | exact .h | apply AtK.t); (· rfl); (conv => whnf); clear H; intro τ H) | rw [List.length_map]); (refine wX ?_)))
  exact aret (VLe.refl _) H.sub ⟨rfl, rfl⟩
theorem nNumbers (h : NoSt σ a) : ACalls Try.prog i_sent_Store_Numbers [a] σ fun v σ' => v = .slice 1 [] .full ∧ σ' = σ := by
  refine k_sent_Store_Numbers rfl ?_
  (refine wX ?_)
  refine acall (nMade h) ?_
  rintro _ σ_ ⟨rfl, e_⟩
  obtain rfl := e_.symm
  refine ⟨?_, Ext.refl _⟩
  (refine wX ?_)
  refine acall (nSort .full σ) ?_
  rintro _ σ_ ⟨rfl, e_⟩
  obtain rfl := e_.symm
  refine ⟨?_, Ext.refl _⟩
  (refine wX ?_)
  exact aret (VLe.refl _) (Sub.refl _) ⟨rfl, rfl⟩
theorem nBytes (h : NoSt σ a) : ACalls Try.prog i_sent_Store_Bytes [a] σ fun v σ' => v = i64v 0 ∧ σ' = σ := by
  refine k_sent_Store_Bytes rfl ?_
  have H := Hp.nil σ
  (refine wX ?_)
  refine acall (nNumbers h) ?_
  rintro _ σ_ ⟨rfl, e_⟩
  obtain rfl := e_.symm
  refine ⟨?_, Ext.refl _⟩
  (refine wX ?_)
  (repeat ((first | refine zI (by omega) ?_ | refine zE (by omega) (by omega) ?_ | refine zD (by omega) (by omega) ?_ | refine zY (by omega) ?_ | refine zN (by omega) ?_ | refine amin ?_ | refine amax ?_ | refine zU (by omega) ?_ | refine z8 (by omega) ?_ | refine zX (by omega) (by omega) ?_ | refine zR rfl ?_ | refine acellA ?_ | (apply zL H; (· repeat first | exact .h | apply AtK.t); (· rfl)) | (apply zA H; (· repeat first | exact .h | apply AtK.t)) | (apply zS H; (· repeat first | exact .h | apply AtK.t); (· rfl); (conv => whnf); clear H; intro τ H) | rw [List.length_map]); (refine wX ?_)))
  refine aloop (α := Unit) (fun y => [(s9, i64v 0), (s3, i64v 0)]) (fun y => σ) (fun y => True) (fun y => 0) () trivial (Sub.refl _) ?_ ?_
  · (refine wX ?_)
    (repeat' first | with_reducible exact EnvLe.refl _ | (refine EnvLe.node ?_ (by first | exact Or.inl rfl | exact Or.inr (Or.inl rfl) | exact Or.inr (Or.inr ⟨nofun, VLe.slice _ _ _⟩)) ?_))
  rintro _ _
  (refine wX ?_)
  (repeat ((first | refine zI (by omega) ?_ | refine zE (by omega) (by omega) ?_ | refine zD (by omega) (by omega) ?_ | refine zY (by omega) ?_ | refine zN (by omega) ?_ | refine amin ?_ | refine amax ?_ | refine zU (by omega) ?_ | refine z8 (by omega) ?_ | refine zX (by omega) (by omega) ?_ | refine zR rfl ?_ | refine acellA ?_ | (apply zL H; (· repeat first | exact .h | apply AtK.t); (· rfl)) | (apply zA H; (· repeat first | exact .h | apply AtK.t)) | (apply zS H; (· repeat first | exact .h | apply AtK.t); (· rfl); (conv => whnf); clear H; intro τ H) | rw [List.length_map]); (refine wX ?_)))
  exact aret (VLe.refl _) (Sub.refl _) ⟨rfl, rfl⟩
theorem nDues (h : NoSt σ a) (ha : a.isCell = true) : ACalls Try.prog i_sent_Store_Dues [a] σ fun v σ' => v = .slice 1 [] .full ∧ σ' = σ := by
  refine k_sent_Store_Dues rfl ?_
  have H := Hp.nil σ
  cases h with
  | nil =>
    (refine wX ?_)
    refine hnew H rfl ?_
    clear H
    intro i1 τ H
    (refine wX ?_)
    (repeat ((first | refine zI (by omega) ?_ | refine zE (by omega) (by omega) ?_ | refine zD (by omega) (by omega) ?_ | refine zY (by omega) ?_ | refine zN (by omega) ?_ | refine amin ?_ | refine amax ?_ | refine zU (by omega) ?_ | refine z8 (by omega) ?_ | refine zX (by omega) (by omega) ?_ | refine zR rfl ?_ | refine acellA ?_ | refine zB H b1 rfl ?_ | refine zC H b1 ?_ | (apply zL H; (· repeat first | exact .h | apply AtK.t); (· rfl)) | (apply zA H; (· repeat first | exact .h | apply AtK.t)) | (apply zS H; (· repeat first | exact .h | apply AtK.t); (· rfl); (conv => whnf); clear H; intro τ H) | rw [List.length_map]); (refine wX ?_)))
    refine acall (nNumbers .nil) ?_
    rintro _ σ_ ⟨rfl, e_⟩
    obtain rfl := e_.symm
    refine ⟨?_, Ext.refl _⟩
    (refine wX ?_)
    refine acall_less (Q := fun v σ' => v = .slice 1 [] .full ∧ σ' = τ) ?_ ?_
    · refine k_slices_DeleteFunc_int_int rfl ?_
      (refine wX ?_)
      refine acall (ixNil _ τ) ?_
      rintro _ σ_ ⟨rfl, e_⟩
      obtain rfl := e_.symm
      refine ⟨?_, Ext.refl _⟩
      (refine wX ?_)
      (repeat ((first | refine zI (by omega) ?_ | refine zE (by omega) (by omega) ?_ | refine zD (by omega) (by omega) ?_ | refine zY (by omega) ?_ | refine zN (by omega) ?_ | refine amin ?_ | refine amax ?_ | refine zU (by omega) ?_ | refine z8 (by omega) ?_ | refine zX (by omega) (by omega) ?_ | refine zR rfl ?_ | refine acellA ?_ | refine zB H b1 rfl ?_ | refine zC H b1 ?_ | (apply zL H; (· repeat first | exact .h | apply AtK.t); (· rfl)) | (apply zA H; (· repeat first | exact .h | apply AtK.t)) | (apply zS H; (· repeat first | exact .h | apply AtK.t); (· rfl); (conv => whnf); clear H; intro τ H) | rw [List.length_map]); (refine wX ?_)))
      exact aret (VLe.refl _) (Sub.refl _) ⟨rfl, rfl⟩
    · rintro _ _ ⟨rfl, rfl⟩
      refine ⟨_, _, VLe.refl _, Sub.refl _, ?_⟩
      (refine wX ?_)
      exact aret (VLe.refl _) H.sub ⟨rfl, rfl⟩
  | zero iz b1 =>
    (refine wX ?_)
    refine hnew H rfl ?_
    clear H
    intro i1 τ H
    (refine wX ?_)
    (repeat ((first | refine zI (by omega) ?_ | refine zE (by omega) (by omega) ?_ | refine zD (by omega) (by omega) ?_ | refine zY (by omega) ?_ | refine zN (by omega) ?_ | refine amin ?_ | refine amax ?_ | refine zU (by omega) ?_ | refine z8 (by omega) ?_ | refine zX (by omega) (by omega) ?_ | refine zR rfl ?_ | refine acellA ?_ | refine zB H b1 rfl ?_ | refine zC H b1 ?_ | (apply zL H; (· repeat first | exact .h | apply AtK.t); (· rfl)) | (apply zA H; (· repeat first | exact .h | apply AtK.t)) | (apply zS H; (· repeat first | exact .h | apply AtK.t); (· rfl); (conv => whnf); clear H; intro τ H) | rw [List.length_map]); (refine wX ?_)))
    refine acall (nNumbers (.zero iz (H.sub _ _ b1))) ?_
    rintro _ σ_ ⟨rfl, e_⟩
    obtain rfl := e_.symm
    refine ⟨?_, Ext.refl _⟩
    (refine wX ?_)
    refine acall_less (Q := fun v σ' => v = .slice 1 [] .full ∧ σ' = τ) ?_ ?_
    · refine k_slices_DeleteFunc_int_int rfl ?_
      (refine wX ?_)
      refine acall (ixNil _ τ) ?_
      rintro _ σ_ ⟨rfl, e_⟩
      obtain rfl := e_.symm
      refine ⟨?_, Ext.refl _⟩
      (refine wX ?_)
      (repeat ((first | refine zI (by omega) ?_ | refine zE (by omega) (by omega) ?_ | refine zD (by omega) (by omega) ?_ | refine zY (by omega) ?_ | refine zN (by omega) ?_ | refine amin ?_ | refine amax ?_ | refine zU (by omega) ?_ | refine z8 (by omega) ?_ | refine zX (by omega) (by omega) ?_ | refine zR rfl ?_ | refine acellA ?_ | refine zB H b1 rfl ?_ | refine zC H b1 ?_ | (apply zL H; (· repeat first | exact .h | apply AtK.t); (· rfl)) | (apply zA H; (· repeat first | exact .h | apply AtK.t)) | (apply zS H; (· repeat first | exact .h | apply AtK.t); (· rfl); (conv => whnf); clear H; intro τ H) | rw [List.length_map]); (refine wX ?_)))
      exact aret (VLe.refl _) (Sub.refl _) ⟨rfl, rfl⟩
    · rintro _ _ ⟨rfl, rfl⟩
      refine ⟨_, _, VLe.refl _, Sub.refl _, ?_⟩
      (refine wX ?_)
      exact aret (VLe.refl _) H.sub ⟨rfl, rfl⟩
end
end Go.Proofs.Ytgobbmdbkmjlnaa
/-
  Fields that are too much for a statement.
-/
namespace Go.Proofs.Ytgobbmdbkmjlnaa
set_option linter.unusedVariables false
set_option linter.unusedSimpArgs false
open Go Go.Am

def smallG (l : List (List UInt8)) : Prop := l.length ≤ 40 ∧ ∀ p ∈ l, p.length ≤ 4200
theorem gGreat (l : List (List UInt8)) (t : Tok) (σ : AHeap) (hl : l.length ≤ 9223372036854775807) : ACalls Try.prog i_bowlinelaw09_Great [lists t l] σ fun v σ' => (∃ g, v = boolv g ∧ (g = false → smallG l)) ∧ σ' = σ := by
  refine k_bowlinelaw09_Great rfl ?_
  (refine wX ?_)
  refine aloop (α := Nat × Nat) (fun x => [(s3, i64v x.2), (s4, i64v x.1)]) (fun _ => σ) (fun x => x.1 ≤ l.length ∧ (0 < x.1 → l.length ≤ 40) ∧ x.2 ≤ 4200 * x.1 ∧ ∀ p ∈ l.take x.1, p.length ≤ 4200) (fun x => l.length - x.1) (0, 0) ⟨Nat.zero_le _, fun h => by omega, Nat.le_refl _, by simp⟩ (Sub.refl _) ?_ ?_
  · (refine wX ?_)
    (repeat' first | with_reducible exact EnvLe.refl _ | (refine EnvLe.node ?_ (by first | exact Or.inl rfl | exact Or.inr (Or.inl rfl) | exact Or.inr (Or.inr ⟨nofun, VLe.slice _ _ _⟩)) ?_))
  rintro ⟨i, n⟩ ⟨hi, h40, hn, ha⟩
  dsimp only at hi h40 hn ha ⊢
  by_cases h : i < l.length
  · by_cases h1 : l.length > 40
    · (refine wX ?_)
      (repeat ((first | refine aload (by (repeat (first | with_reducible exact upd_same _ _ _ | assumption | rw [upd_ne _ _ (by first | assumption | (apply Ne.symm; assumption))]))) rfl ?_ | refine afit_i64 (by omega) ?_ | refine arem_nonneg (by omega) (by omega) ?_ | refine adiv_i64 (by omega) (by omega) ?_ | refine abr_yes (by omega) ?_ | refine abr_no (by omega) ?_ | refine amin ?_ | refine amax ?_ | refine afit_u64 (by omega) ?_ | refine afit_u8 (by omega) ?_ | rw [List.length_map]); (refine wX ?_)))
      exact aret_same ⟨⟨true, rfl, nofun⟩, rfl⟩
    · (refine wX ?_)
      (repeat ((first | refine aload (by (repeat (first | with_reducible exact upd_same _ _ _ | assumption | rw [upd_ne _ _ (by first | assumption | (apply Ne.symm; assumption))]))) rfl ?_ | refine afit_i64 (by omega) ?_ | refine arem_nonneg (by omega) (by omega) ?_ | refine adiv_i64 (by omega) (by omega) ?_ | refine abr_yes (by omega) ?_ | refine abr_no (by omega) ?_ | refine amin ?_ | refine amax ?_ | refine afit_u64 (by omega) ?_ | refine afit_u8 (by omega) ?_ | rw [List.length_map]); (refine wX ?_)))
      refine aget (by omega) (get_lists h) ?_
      (refine wX ?_)
      refine acell rfl ?_
      (refine wX ?_)
      rw [List.length_map]
      by_cases h2 : l[i].length > 4200
      · refine abr_yes (by omega) ?_
        (refine wX ?_)
        exact aret_same ⟨⟨true, rfl, nofun⟩, rfl⟩
      · refine abr_no (by omega) ?_
        (refine wX ?_)
        refine aget (by omega) (get_lists h) ?_
        (refine wX ?_)
        refine acell rfl ?_
        (refine wX ?_)
        (repeat ((first | refine aload (by (repeat (first | with_reducible exact upd_same _ _ _ | assumption | rw [upd_ne _ _ (by first | assumption | (apply Ne.symm; assumption))]))) rfl ?_ | refine afit_i64 (by omega) ?_ | refine arem_nonneg (by omega) (by omega) ?_ | refine adiv_i64 (by omega) (by omega) ?_ | refine abr_yes (by omega) ?_ | refine abr_no (by omega) ?_ | refine amin ?_ | refine amax ?_ | refine afit_u64 (by omega) ?_ | refine afit_u8 (by omega) ?_ | rw [List.length_map]); (refine wX ?_)))
        refine ⟨(i + 1, n + l[i].length), ⟨h, fun _ => by omega, by dsimp only; omega, ?_⟩, by dsimp only; omega, Sub.refl _, ?_⟩
        · dsimp only
          rw [List.take_add_one, List.getElem?_eq_getElem h]
          intro p hp
          rcases List.mem_append.1 hp with h | h
          · exact ha p h
          · simp at h; subst h; omega
        · rw [show (n : Int) + ((l[i].length : Nat) : Int) = ((n + l[i].length : Nat) : Int) by omega]
          (refine wX ?_)
          (repeat' first | with_reducible exact EnvLe.refl _ | (refine EnvLe.node ?_ (by first | exact Or.inl rfl | exact Or.inr (Or.inl rfl) | exact Or.inr (Or.inr ⟨nofun, VLe.slice _ _ _⟩)) ?_))
  · rw [List.take_of_length_le (by omega)] at ha
    (refine wX ?_)
    (repeat ((first | refine aload (by (repeat (first | with_reducible exact upd_same _ _ _ | assumption | rw [upd_ne _ _ (by first | assumption | (apply Ne.symm; assumption))]))) rfl ?_ | refine afit_i64 (by omega) ?_ | refine arem_nonneg (by omega) (by omega) ?_ | refine adiv_i64 (by omega) (by omega) ?_ | refine abr_yes (by omega) ?_ | refine abr_no (by omega) ?_ | refine amin ?_ | refine amax ?_ | refine afit_u64 (by omega) ?_ | refine afit_u8 (by omega) ?_ | rw [List.length_map]); (refine wX ?_)))
    refine aret_same ⟨⟨_, rfl, fun _ => ⟨?_, ha⟩⟩, rfl⟩
    by_cases h0 : l.length = 0
    · omega
    · exact h40 (by omega)
end Go.Proofs.Ytgobbmdbkmjlnaa
/-
  Statements of what is kept to be sent again: one packet alone.
-/
namespace Go.Proofs.Ytgobbmdbkmjlnaa
set_option linter.unusedVariables false
set_option linter.unusedSimpArgs false
open Go Go.Am

theorem one_ok {y : Sp} (h : spRight y = true) : SOk [y] := by
  have h0 := spRight_iff.1 h
  exact ⟨⟨by omega, h0.2.1, h0.2.2, trivial⟩, by simp⟩
/-- One packet alone is kept. -/
abbrev oneL (id ie ist im : Nat) (p : Pk) (n c wd : Int) (u : Tok) (l : List Sp) (F : List HE) : List HE := .o id (.cells [spL u l]) :: .o ie (.cells (enC p n id c)) :: .o ist (.cells (stC wd im)) :: .o im (.map [(p.sn, .ptr ie 0)]) :: F
section
variable {σ τ : AHeap} {ist im ie id : Nat} {wd n c : Int} {p : Pk} {l : List Sp} {u : Tok} {F : List HE}
theorem one_find : [(p.sn, AVal.ptr ie 0)].find? (fun e => e.1 == p.sn) = some (p.sn, .ptr ie 0) := by simp
theorem oBytes (H : Hp σ (oneL id ie ist im p n c wd u l F) τ) (hs : SOk l) (hr : inR p.sn) : ACalls Try.prog i_sent_Store_Bytes [.ptr ist 0] τ fun v σ' => v = i64v (cntL l) ∧ σ' = τ := by
  have := stBytes (dl := fun _ => l) (H.get (k := 2) rfl) (H.get (k := 3) rfl) (by simp) (fun e he => by rw [List.mem_singleton.1 he]; exact hr)
    ⟨fun e he => by rw [List.mem_singleton.1 he]; exact ⟨ie, p, n, id, c, u, rfl, H.get (k := 1) rfl, H.get (k := 0) rfl, hs⟩⟩
  have e : dueSum (fun _ => l) ([(p.sn, AVal.ptr ie 0)].map (·.1)) = cntL l := by show cntL l + 0 = _; omega
  rw [e] at this
  exact this
theorem oCount (H : Hp σ (oneL id ie ist im p n c wd u l F) τ) : ACalls Try.prog i_sent_Store_Count [.ptr ist 0, i64v p.sn] τ fun v σ' => v = i64v c ∧ σ' = τ :=
  stCount (H.get (k := 2) rfl) (H.get (k := 3) rfl) p.sn one_find (H.get (k := 1) rfl)
theorem oAgain (H : Hp σ (oneL id ie ist im p n c wd u l F) τ) (hs : SOk l) (hc : 0 ≤ c ∧ c ≤ 4611686018427387904) (a b : Int) : ACalls Try.prog i_sent_Store_Again [.ptr ist 0, i64v p.sn, i64v a, i64v b] τ fun v σ' =>
    v = .tup [i64v (if (spanV n a b).2 = 0 then againN n a b c l else 0), i64v (spanV n a b).2] ∧ ∃ u, Hp σ (oneL id ie ist im p n (againN n a b c l) wd u (againS n a b l) F) σ' :=
  stAgain H (H.get (k := 2) rfl) (H.get (k := 3) rfl) p.sn a b one_find (by have := hs.k; omega) hc
theorem oSent (H : Hp σ (oneL id ie ist im p n c wd u l F) τ) (hs : SOk l) (a b : Int) : ACalls Try.prog i_sent_Store_Sent [.ptr ist 0, i64v p.sn, i64v a, i64v b] τ fun v σ' =>
    v = i64v (spanV n a b).2 ∧ ∃ u, Hp σ (oneL id ie ist im p n c wd u (sentL n a b l) F) σ' :=
  stSent H (H.get (k := 2) rfl) (H.get (k := 3) rfl) p.sn a b one_find (by have := hs.k; omega)
end

def px19 : Pk := ⟨false, 0, 7, false, false, 0, [[1, 2], [3]]⟩
theorem c1_19 : putC px19 10 [] = 0 := by decide +kernel
theorem c2_19 (j : Nat) : putC ⟨false, 0, 7, false, false, 0, [[1]]⟩ 10 [(7, .ptr j 0)] = 12 := by
  unfold putC
  rw [if_neg (by decide +kernel), if_pos (by simp)]
theorem pk_args {x a b c d e f : AVal} (l : List TB) (t : Tok) : ∀ κ vs, RepL κ [x, .agg [a, b, c, d, e, f, .slice 1 (l.map slB) t]] vs → RepL κ [x, .agg [a, b, c, d, e, f, lists .none (l.map (·.2))]] vs :=
  VLe.cons (VLe.refl _) (VLe.cons (VLe.aggA (VLe.cons (VLe.refl _) (VLe.cons (VLe.refl _) (VLe.cons (VLe.refl _) (VLe.cons (VLe.refl _) (VLe.cons (VLe.refl _) (VLe.cons (VLe.refl _) (VLe.cons (VLe.tbs _ _) VLe.nil)))))))) VLe.nil)
theorem acall_weakB {P : Program} {f : FuncId} {args args' : List AVal} {σ : AHeap} {Q : AVal → AHeap → Prop} (h : ∀ κ vs, RepL κ args vs → RepL κ args' vs) (k : ACalls P f args' σ Q) : ACalls P f args σ Q := by
  rw [ACalls_def] at k ⊢
  exact fun κ w cargs hI hr => k κ w cargs hI (h κ cargs hr)
set_option maxRecDepth 20000 in
set_option maxHeartbeats 4000000 in
theorem alive19 (σ : AHeap) : ACalls Try.prog i_bowlinelaw19_alive [] σ fun v σ' => v = boolv true ∧ σ' = σ := by
  refine k_bowlinelaw19_alive rfl ?_
  (refine wX ?_)
  refine acall (stNew 10 (.inl rfl) σ) ?_
  rintro _ τ ⟨ist, im, rfl, H⟩
  refine ⟨?_, H.ext⟩
  (refine wX ?_)
  (repeat ((first | refine zI (by omega) ?_ | refine zE (by omega) (by omega) ?_ | refine zD (by omega) (by omega) ?_ | refine zY (by omega) ?_ | refine zN (by omega) ?_ | refine amin ?_ | refine amax ?_ | refine zU (by omega) ?_ | refine z8 (by omega) ?_ | refine zX (by omega) (by omega) ?_ | refine zR rfl ?_ | refine acellA ?_ | (apply zL H; (· repeat first | exact .h | apply AtK.t); (· rfl)) | (apply zA H; (· repeat first | exact .h | apply AtK.t)) | (apply zS H; (· repeat first | exact .h | apply AtK.t); (· rfl); (conv => whnf); clear H; intro τ H) | rw [List.length_map]); (refine wX ?_)))
  refine acall (acall_weakB (pk_args [(.full, [1, 2]), (.full, [3])] .full) (stPut H px19 (by simp) (by decide) (by decide) (by decide))) ?_
  clear H
  rintro _ τ ⟨rfl, h⟩
  rw [c1_19] at h ⊢
  obtain ⟨_, ie, id, u, H⟩ : (0 : Int) = 0 ∧ ∃ ie id u, Hp σ (oneL id ie ist im px19 3 0 10 u [] []) τ := by
    rcases h with h | h
    · exact absurd rfl h.1
    · exact h
  clear h
  (refine wX ?_)
  (repeat ((first | refine zI (by omega) ?_ | refine zE (by omega) (by omega) ?_ | refine zD (by omega) (by omega) ?_ | refine zY (by omega) ?_ | refine zN (by omega) ?_ | refine amin ?_ | refine amax ?_ | refine zU (by omega) ?_ | refine z8 (by omega) ?_ | refine zX (by omega) (by omega) ?_ | refine zR rfl ?_ | refine acellA ?_ | (apply zL H; (· repeat first | exact .h | apply AtK.t); (· rfl)) | (apply zA H; (· repeat first | exact .h | apply AtK.t)) | (apply zS H; (· repeat first | exact .h | apply AtK.t); (· rfl); (conv => whnf); clear H; intro τ H) | rw [List.length_map]); (refine wX ?_)))
  refine acall (oAgain H SOk.nil (by omega) 0 0) ?_
  clear H
  rintro _ τ ⟨rfl, u, H⟩
  rw [show againN 3 0 0 0 [] = 1 by decide, show againS 3 0 0 [] = [(0, 3)] by decide] at H
  rw [show againN 3 0 0 0 [] = 1 by decide, show (spanV 3 0 0).2 = 0 by decide, if_pos rfl]
  (refine wX ?_)
  (repeat ((first | refine zI (by omega) ?_ | refine zE (by omega) (by omega) ?_ | refine zD (by omega) (by omega) ?_ | refine zY (by omega) ?_ | refine zN (by omega) ?_ | refine amin ?_ | refine amax ?_ | refine zU (by omega) ?_ | refine z8 (by omega) ?_ | refine zX (by omega) (by omega) ?_ | refine zR rfl ?_ | refine acellA ?_ | (apply zL H; (· repeat first | exact .h | apply AtK.t); (· rfl)) | (apply zA H; (· repeat first | exact .h | apply AtK.t)) | (apply zS H; (· repeat first | exact .h | apply AtK.t); (· rfl); (conv => whnf); clear H; intro τ H) | rw [List.length_map]); (refine wX ?_)))
  refine acall (oAgain H (one_ok (by decide)) (by omega) 1 3) ?_
  clear H
  rintro _ τ ⟨rfl, u, H⟩
  rw [show againN 3 1 3 1 [(0, 3)] = 1 by decide, show againS 3 1 3 [(0, 3)] = [(0, 3)] by decide] at H
  rw [show againN 3 1 3 1 [(0, 3)] = 1 by decide, show (spanV 3 1 3).2 = 0 by decide, if_pos rfl]
  (refine wX ?_)
  (repeat ((first | refine zI (by omega) ?_ | refine zE (by omega) (by omega) ?_ | refine zD (by omega) (by omega) ?_ | refine zY (by omega) ?_ | refine zN (by omega) ?_ | refine amin ?_ | refine amax ?_ | refine zU (by omega) ?_ | refine z8 (by omega) ?_ | refine zX (by omega) (by omega) ?_ | refine zR rfl ?_ | refine acellA ?_ | (apply zL H; (· repeat first | exact .h | apply AtK.t); (· rfl)) | (apply zA H; (· repeat first | exact .h | apply AtK.t)) | (apply zS H; (· repeat first | exact .h | apply AtK.t); (· rfl); (conv => whnf); clear H; intro τ H) | rw [List.length_map]); (refine wX ?_)))
  refine acall (oSent H (one_ok (by decide)) 1 2) ?_
  clear H
  rintro _ τ ⟨rfl, u, H⟩
  rw [show sentL 3 1 2 [(0, 3)] = [(0, 1), (2, 3)] by decide] at H
  rw [show (spanV 3 1 2).2 = 0 by decide]
  (refine wX ?_)
  (repeat ((first | refine zI (by omega) ?_ | refine zE (by omega) (by omega) ?_ | refine zD (by omega) (by omega) ?_ | refine zY (by omega) ?_ | refine zN (by omega) ?_ | refine amin ?_ | refine amax ?_ | refine zU (by omega) ?_ | refine z8 (by omega) ?_ | refine zX (by omega) (by omega) ?_ | refine zR rfl ?_ | refine acellA ?_ | (apply zL H; (· repeat first | exact .h | apply AtK.t); (· rfl)) | (apply zA H; (· repeat first | exact .h | apply AtK.t)) | (apply zS H; (· repeat first | exact .h | apply AtK.t); (· rfl); (conv => whnf); clear H; intro τ H) | rw [List.length_map]); (refine wX ?_)))
  have ok2 : SOk [((0 : Int), (1 : Int)), (2, 3)] := ⟨⟨by decide, by decide, by decide, by decide, by decide, by decide, trivial⟩, by decide⟩
  refine acall (oAgain H ok2 (by omega) 1 2) ?_
  clear H
  rintro _ τ ⟨rfl, u, H⟩
  rw [show againN 3 1 2 1 [(0, 1), (2, 3)] = 2 by decide, show againS 3 1 2 [(0, 1), (2, 3)] = [(0, 3)] by decide] at H
  rw [show againN 3 1 2 1 [(0, 1), (2, 3)] = 2 by decide, show (spanV 3 1 2).2 = 0 by decide, if_pos rfl]
  (refine wX ?_)
  (repeat ((first | refine zI (by omega) ?_ | refine zE (by omega) (by omega) ?_ | refine zD (by omega) (by omega) ?_ | refine zY (by omega) ?_ | refine zN (by omega) ?_ | refine amin ?_ | refine amax ?_ | refine zU (by omega) ?_ | refine z8 (by omega) ?_ | refine zX (by omega) (by omega) ?_ | refine zR rfl ?_ | refine acellA ?_ | (apply zL H; (· repeat first | exact .h | apply AtK.t); (· rfl)) | (apply zA H; (· repeat first | exact .h | apply AtK.t)) | (apply zS H; (· repeat first | exact .h | apply AtK.t); (· rfl); (conv => whnf); clear H; intro τ H) | rw [List.length_map]); (refine wX ?_)))
  refine acall (stAgainNone (H.get (k := 2) rfl) (H.get (k := 3) rfl) 8 0 0 (by simp [px19])) ?_
  rintro _ σ_ ⟨rfl, e_⟩
  obtain rfl := e_.symm
  (refine wX ?_)
  (repeat ((first | refine zI (by omega) ?_ | refine zE (by omega) (by omega) ?_ | refine zD (by omega) (by omega) ?_ | refine zY (by omega) ?_ | refine zN (by omega) ?_ | refine amin ?_ | refine amax ?_ | refine zU (by omega) ?_ | refine z8 (by omega) ?_ | refine zX (by omega) (by omega) ?_ | refine zR rfl ?_ | refine acellA ?_ | (apply zL H; (· repeat first | exact .h | apply AtK.t); (· rfl)) | (apply zA H; (· repeat first | exact .h | apply AtK.t)) | (apply zS H; (· repeat first | exact .h | apply AtK.t); (· rfl); (conv => whnf); clear H; intro τ H) | rw [List.length_map]); (refine wX ?_)))
  refine acall (oBytes H (one_ok (by decide)) (by decide)) ?_
  rintro _ σ_ ⟨rfl, e_⟩
  obtain rfl := e_.symm
  refine ⟨?_, Ext.refl _⟩
  (refine wX ?_)
  rw [show cntL [((0 : Int), (3 : Int))] = 3 by decide]
  (refine wX ?_)
  (repeat ((first | refine zI (by omega) ?_ | refine zE (by omega) (by omega) ?_ | refine zD (by omega) (by omega) ?_ | refine zY (by omega) ?_ | refine zN (by omega) ?_ | refine amin ?_ | refine amax ?_ | refine zU (by omega) ?_ | refine z8 (by omega) ?_ | refine zX (by omega) (by omega) ?_ | refine zR rfl ?_ | refine acellA ?_ | (apply zL H; (· repeat first | exact .h | apply AtK.t); (· rfl)) | (apply zA H; (· repeat first | exact .h | apply AtK.t)) | (apply zS H; (· repeat first | exact .h | apply AtK.t); (· rfl); (conv => whnf); clear H; intro τ H) | rw [List.length_map]); (refine wX ?_)))
  refine acall (oCount H) ?_
  rintro _ σ_ ⟨rfl, e_⟩
  obtain rfl := e_.symm
  refine ⟨?_, Ext.refl _⟩
  (refine wX ?_)
  (repeat ((first | refine zI (by omega) ?_ | refine zE (by omega) (by omega) ?_ | refine zD (by omega) (by omega) ?_ | refine zY (by omega) ?_ | refine zN (by omega) ?_ | refine amin ?_ | refine amax ?_ | refine zU (by omega) ?_ | refine z8 (by omega) ?_ | refine zX (by omega) (by omega) ?_ | refine zR rfl ?_ | refine acellA ?_ | (apply zL H; (· repeat first | exact .h | apply AtK.t); (· rfl)) | (apply zA H; (· repeat first | exact .h | apply AtK.t)) | (apply zS H; (· repeat first | exact .h | apply AtK.t); (· rfl); (conv => whnf); clear H; intro τ H) | rw [List.length_map]); (refine wX ?_)))
  refine acall (acall_weakB (pk_args [(.full, [1])] .full) (stPut (F := .o id (.cells [spL u [(0, 3)]]) :: .o ie (.cells (enC px19 3 id 2)) :: []) (es := [(7, .ptr ie 0)]) (wd := 10) ((H.front (k := 3) rfl).front (k := 3) rfl) ⟨false, 0, 7, false, false, 0, [[1]]⟩ (fun e he => ⟨ie, by rw [List.mem_singleton.1 he]⟩) (by decide) (by decide) (by simp))) ?_
  rintro _ υ ⟨rfl, h⟩
  rw [c2_19] at h ⊢
  rcases h with ⟨_, N⟩ | ⟨h, _⟩
  · (refine wX ?_)
    (repeat ((first | refine zI (by omega) ?_ | refine zE (by omega) (by omega) ?_ | refine zD (by omega) (by omega) ?_ | refine zY (by omega) ?_ | refine zN (by omega) ?_ | refine amin ?_ | refine amax ?_ | refine zU (by omega) ?_ | refine z8 (by omega) ?_ | refine zX (by omega) (by omega) ?_ | refine zR rfl ?_ | refine acellA ?_ | (apply zL H; (· repeat first | exact .h | apply AtK.t); (· rfl)) | (apply zA H; (· repeat first | exact .h | apply AtK.t)) | (apply zS H; (· repeat first | exact .h | apply AtK.t); (· rfl); (conv => whnf); clear H; intro τ H) | rw [List.length_map]); (refine wX ?_)))
    exact aret (VLe.refl _) N.sub ⟨rfl, rfl⟩
  · exact absurd h (by decide)
end Go.Proofs.Ytgobbmdbkmjlnaa
/-
  Statement of what is kept to be sent again: what is due twice is considered once.
-/
namespace Go.Proofs.Ytgobbmdbkmjlnaa
set_option linter.unusedVariables false
set_option linter.unusedSimpArgs false
open Go Go.Am

theorem small_sumA {l : List (List UInt8)} (h : smallG l) : total l ≤ 168000 := by
  have : ∀ (m : List (List UInt8)), (∀ p ∈ m, p.length ≤ 4200) → total m ≤ 4200 * m.length := by
    intro m
    induction m with
    | nil => intro _; exact Nat.le_refl _
    | cons a m ih =>
      intro hm
      have h1 := ih fun p hp => hm p (List.mem_cons_of_mem _ hp)
      have h2 := hm a (List.mem_cons_self ..)
      rw [total_cons, List.length_cons]; omega
  have := this l h.2
  have := h.1
  omega
theorem inR_of {n : Int} (h : -9223372036854775808 ≤ n ∧ n ≤ 9223372036854775807) : inR n := by
  have h1 : IntKind.i64.min = -9223372036854775808 := by decide
  have h2 : IntKind.i64.max = 9223372036854775807 := by decide
  simp only [inR, Lit.wf, h1, h2, Bool.and_eq_true, decide_eq_true_eq]
  exact h
end Go.Proofs.Ytgobbmdbkmjlnaa
/-
  Statement of what is kept to be sent again: whatever is kept, due, sent and dropped, a store tells what the document says.
-/
namespace Go.Proofs.Ytgobbmdbkmjlnaa
set_option linter.unusedVariables false
set_option linter.unusedSimpArgs false
set_option maxRecDepth 20000
open Go Go.Am

abbrev PkT := Bool × Int × Int × Bool × Bool × Int × List (List UInt8)
def pkT (t : PkT) : Pk := ⟨t.1, t.2.1, t.2.2.1, t.2.2.2.1, t.2.2.2.2.1, t.2.2.2.2.2.1, t.2.2.2.2.2.2⟩
abbrev OpT := Int × Int × Int × Int × PkT
def opC (o : OpT) : List AVal := [i64v o.1, i64v o.2.1, i64v o.2.2.1, i64v o.2.2.2.1, boolv (pkT o.2.2.2.2).poll, i64v (pkT o.2.2.2.2).fi, i64v (pkT o.2.2.2.2).sn, boolv (pkT o.2.2.2.2).part, boolv (pkT o.2.2.2.2).last, i64v (pkT o.2.2.2.2).off, lists .none (pkT o.2.2.2.2).fs]
def opV (o : OpT) : AVal := .agg (opC o)
theorem get_ops {ops : List OpT} {i : Nat} (h : i < ops.length) : (ops.map opV)[((i : Nat) : Int).toNat]? = some (opV ops[i]) := by
  rw [Int.toNat_natCast, List.getElem?_map, List.getElem?_eq_getElem h]; rfl
set_option maxHeartbeats 16000000 in
theorem SentLives (w : Int) (ops : List OpT) (σ : AHeap) (hl : ops.length ≤ 140737488355328) (hb : ∀ o ∈ ops, (pkT o.2.2.2.2).fs.length ≤ 140737488355328 ∧ inR (pkT o.2.2.2.2).sn) :
    ACalls Try.prog i_bowlinelaw19_SentLives [i64v w, .slice 11 (ops.map opV) .none] σ fun v σ' => v = boolv true ∧ Hp σ [] σ' := by
  refine k_bowlinelaw19_SentLives rfl ?_
  by_cases hw : w = 10 ∨ w = 16
  case neg =>
    (refine wX ?_)
    refine acall (stNewNo w hw σ) ?_
    rintro _ σ_ ⟨rfl, e_⟩
    obtain rfl := e_.symm
    refine ⟨?_, Ext.refl _⟩
    (refine wX ?_)
    (repeat ((first | refine zI (by omega) ?_ | refine zE (by omega) (by omega) ?_ | refine zD (by omega) (by omega) ?_ | refine zY (by omega) ?_ | refine zN (by omega) ?_ | refine amin ?_ | refine amax ?_ | refine zU (by omega) ?_ | refine z8 (by omega) ?_ | refine zX (by omega) (by omega) ?_ | refine zR rfl ?_ | refine acellA ?_ | refine zB H b1 rfl ?_ | refine zC H b1 ?_ | (apply zL H; (· repeat first | exact .h | apply AtK.t); (· rfl)) | (apply zA H; (· repeat first | exact .h | apply AtK.t)) | (apply zS H; (· repeat first | exact .h | apply AtK.t); (· rfl); (conv => whnf); clear H; intro τ H) | rw [List.length_map]); (refine wX ?_)))
    refine acall (alive19 σ) ?_
    rintro _ σ_ ⟨rfl, e_⟩
    obtain rfl := e_.symm
    refine ⟨?_, Ext.refl _⟩
    (refine wX ?_)
    (repeat ((first | refine zI (by omega) ?_ | refine zE (by omega) (by omega) ?_ | refine zD (by omega) (by omega) ?_ | refine zY (by omega) ?_ | refine zN (by omega) ?_ | refine amin ?_ | refine amax ?_ | refine zU (by omega) ?_ | refine z8 (by omega) ?_ | refine zX (by omega) (by omega) ?_ | refine zR rfl ?_ | refine acellA ?_ | refine zB H b1 rfl ?_ | refine zC H b1 ?_ | (apply zL H; (· repeat first | exact .h | apply AtK.t); (· rfl)) | (apply zA H; (· repeat first | exact .h | apply AtK.t)) | (apply zS H; (· repeat first | exact .h | apply AtK.t); (· rfl); (conv => whnf); clear H; intro τ H) | rw [List.length_map]); (refine wX ?_)))
    exact aret (VLe.refl _) (Sub.refl _) ⟨rfl, Hp.nil σ⟩
  (refine wX ?_)
  refine acall (stNew w hw σ) ?_
  rintro _ τ0 ⟨ist, im, rfl, N⟩
  refine ⟨?_, N.ext⟩
  apply via_loop (fun b Q => ∀ ix τ, Both σ ist ix w 0 [] τ → setsK (Env.full 9) [(s1, .slice 11 (ops.map opV) .none), (s5, .ptr ist 0), (s7, .ptr ix 0), (s8, i64v 0)] fun e => ALoop Try.prog c7 b e τ Q)
  case f =>
    intro hK
    have H := N
    by_cases h10 : w = 10
    · (refine wX ?_)
      (repeat ((first | refine zI (by omega) ?_ | refine zE (by omega) (by omega) ?_ | refine zD (by omega) (by omega) ?_ | refine zY (by omega) ?_ | refine zN (by omega) ?_ | refine amin ?_ | refine amax ?_ | refine zU (by omega) ?_ | refine z8 (by omega) ?_ | refine zX (by omega) (by omega) ?_ | refine zR rfl ?_ | refine acellA ?_ | refine zB H b1 rfl ?_ | refine zC H b1 ?_ | (apply zL H; (· repeat first | exact .h | apply AtK.t); (· rfl)) | (apply zA H; (· repeat first | exact .h | apply AtK.t)) | (apply zS H; (· repeat first | exact .h | apply AtK.t); (· rfl); (conv => whnf); clear H; intro τ H) | rw [List.length_map]); (refine wX ?_)))
      refine hnew H rfl ?_
      clear H
      intro ix τ H
      (refine wX ?_)
      have M : Both σ ist ix w 0 [] τ := bMade (G2 := []) (by exact Hp.comm [_] [_, _] H)
      (repeat ((first | refine zI (by omega) ?_ | refine zE (by omega) (by omega) ?_ | refine zD (by omega) (by omega) ?_ | refine zY (by omega) ?_ | refine zN (by omega) ?_ | refine amin ?_ | refine amax ?_ | refine zU (by omega) ?_ | refine z8 (by omega) ?_ | refine zX (by omega) (by omega) ?_ | refine zR rfl ?_ | refine acellA ?_ | refine zB H b1 rfl ?_ | refine zC H b1 ?_ | (apply zL H; (· repeat first | exact .h | apply AtK.t); (· rfl)) | (apply zA H; (· repeat first | exact .h | apply AtK.t)) | (apply zS H; (· repeat first | exact .h | apply AtK.t); (· rfl); (conv => whnf); clear H; intro τ H) | rw [List.length_map]); (refine wX ?_)))
      refine aloop_from ?_ (hK () ix τ M)
      (repeat' first | with_reducible exact EnvLe.refl _ | (refine EnvLe.node ?_ (by first | exact Or.inl rfl | exact Or.inr (Or.inl rfl) | exact Or.inr (Or.inr ⟨nofun, VLe.slice _ _ _⟩)) ?_))
    · have h16 : w = 16 := by omega
      (refine wX ?_)
      (repeat ((first | refine zI (by omega) ?_ | refine zE (by omega) (by omega) ?_ | refine zD (by omega) (by omega) ?_ | refine zY (by omega) ?_ | refine zN (by omega) ?_ | refine amin ?_ | refine amax ?_ | refine zU (by omega) ?_ | refine z8 (by omega) ?_ | refine zX (by omega) (by omega) ?_ | refine zR rfl ?_ | refine acellA ?_ | refine zB H b1 rfl ?_ | refine zC H b1 ?_ | (apply zL H; (· repeat first | exact .h | apply AtK.t); (· rfl)) | (apply zA H; (· repeat first | exact .h | apply AtK.t)) | (apply zS H; (· repeat first | exact .h | apply AtK.t); (· rfl); (conv => whnf); clear H; intro τ H) | rw [List.length_map]); (refine wX ?_)))
      refine hnew H rfl ?_
      clear H
      intro ix τ H
      (refine wX ?_)
      have M : Both σ ist ix w 0 [] τ := bMade (G2 := []) (by exact Hp.comm [_] [_, _] H)
      (repeat ((first | refine zI (by omega) ?_ | refine zE (by omega) (by omega) ?_ | refine zD (by omega) (by omega) ?_ | refine zY (by omega) ?_ | refine zN (by omega) ?_ | refine amin ?_ | refine amax ?_ | refine zU (by omega) ?_ | refine z8 (by omega) ?_ | refine zX (by omega) (by omega) ?_ | refine zR rfl ?_ | refine acellA ?_ | refine zB H b1 rfl ?_ | refine zC H b1 ?_ | (apply zL H; (· repeat first | exact .h | apply AtK.t); (· rfl)) | (apply zA H; (· repeat first | exact .h | apply AtK.t)) | (apply zS H; (· repeat first | exact .h | apply AtK.t); (· rfl); (conv => whnf); clear H; intro τ H) | rw [List.length_map]); (refine wX ?_)))
      refine aloop_from ?_ (hK () ix τ M)
      (repeat' first | with_reducible exact EnvLe.refl _ | (refine EnvLe.node ?_ (by first | exact Or.inl rfl | exact Or.inr (Or.inl rfl) | exact Or.inr (Or.inr ⟨nofun, VLe.slice _ _ _⟩)) ?_))
  intro ix τ M
  (conv => whnf)
  clear N τ0
  refine aloop (α := Nat × AHeap) (fun y => [(s8, i64v y.1)]) (fun y => y.2) (fun y => y.1 ≤ ops.length ∧ y.1 ≤ 60 ∧ Both σ ist ix w y.1 [] y.2) (fun y => ops.length - y.1) (0, τ) ⟨Nat.zero_le _, Nat.zero_le _, M⟩ (Sub.refl _) ?_ ?_
  · (refine wX ?_)
    (repeat' first | with_reducible exact EnvLe.refl _ | (refine EnvLe.node ?_ (by first | exact Or.inl rfl | exact Or.inr (Or.inl rfl) | exact Or.inr (Or.inr ⟨nofun, VLe.slice _ _ _⟩)) ?_))
  clear M τ
  rintro ⟨i, τ⟩ ⟨hi, hi2, M⟩
  dsimp only at hi hi2 M ⊢
  (refine wX ?_)
  rw [List.length_map]
  by_cases h : i < ops.length ∧ i < 60
  case neg =>
    have fin : Hp σ [] τ := M.heap
    have H := Hp.nil τ
    refine Or.elim (Nat.lt_or_ge i ops.length) (fun h3 => ?_) (fun h3 => ?_)
    all_goals
      (repeat ((first | refine zI (by omega) ?_ | refine zE (by omega) (by omega) ?_ | refine zD (by omega) (by omega) ?_ | refine zY (by omega) ?_ | refine zN (by omega) ?_ | refine amin ?_ | refine amax ?_ | refine zU (by omega) ?_ | refine z8 (by omega) ?_ | refine zX (by omega) (by omega) ?_ | refine zR rfl ?_ | refine acellA ?_ | refine zB H b1 rfl ?_ | refine zC H b1 ?_ | (apply zL H; (· repeat first | exact .h | apply AtK.t); (· rfl)) | (apply zA H; (· repeat first | exact .h | apply AtK.t)) | (apply zS H; (· repeat first | exact .h | apply AtK.t); (· rfl); (conv => whnf); clear H; intro τ H) | rw [List.length_map]); (refine wX ?_)))
      refine hnew H rfl ?_
      clear H
      intro iz τ H
      (refine wX ?_)
      have z := NoSt.zero iz (H.get (k := 0) rfl)
      have n0 : NoSt τ (.v (.pointer none)) := .nil
      refine acall (nClear n0) ?_
      rintro _ σ_ ⟨rfl, e_⟩
      obtain rfl := e_.symm
      (refine wX ?_)
      refine acall (nAgain n0 1 0 0) ?_
      rintro _ σ_ ⟨rfl, e_⟩
      obtain rfl := e_.symm
      (refine wX ?_)
      refine acall (nGet z 1) ?_
      rintro _ σ_ ⟨rfl, e_⟩
      obtain rfl := e_.symm
      refine ⟨?_, Ext.refl _⟩
      (refine wX ?_)
      (repeat ((first | refine zI (by omega) ?_ | refine zE (by omega) (by omega) ?_ | refine zD (by omega) (by omega) ?_ | refine zY (by omega) ?_ | refine zN (by omega) ?_ | refine amin ?_ | refine amax ?_ | refine zU (by omega) ?_ | refine z8 (by omega) ?_ | refine zX (by omega) (by omega) ?_ | refine zR rfl ?_ | refine acellA ?_ | refine zB H b1 rfl ?_ | refine zC H b1 ?_ | (apply zL H; (· repeat first | exact .h | apply AtK.t); (· rfl)) | (apply zA H; (· repeat first | exact .h | apply AtK.t)) | (apply zS H; (· repeat first | exact .h | apply AtK.t); (· rfl); (conv => whnf); clear H; intro τ H) | rw [List.length_map]); (refine wX ?_)))
      refine hnew H rfl ?_
      clear H
      intro iy τ H
      (refine wX ?_)
      (repeat ((first | refine zI (by omega) ?_ | refine zE (by omega) (by omega) ?_ | refine zD (by omega) (by omega) ?_ | refine zY (by omega) ?_ | refine zN (by omega) ?_ | refine amin ?_ | refine amax ?_ | refine zU (by omega) ?_ | refine z8 (by omega) ?_ | refine zX (by omega) (by omega) ?_ | refine zR rfl ?_ | refine acellA ?_ | refine zB H b1 rfl ?_ | refine zC H b1 ?_ | (apply zL H; (· repeat first | exact .h | apply AtK.t); (· rfl)) | (apply zA H; (· repeat first | exact .h | apply AtK.t)) | (apply zS H; (· repeat first | exact .h | apply AtK.t); (· rfl); (conv => whnf); clear H; intro τ H) | rw [List.length_map]); (refine wX ?_)))
      have z := NoSt.zero iz (H.get (k := 1) rfl)
      have n0 : NoSt τ (.v (.pointer none)) := .nil
      refine acall (alive19 τ) ?_
      rintro _ σ_ ⟨rfl, e_⟩
      obtain rfl := e_.symm
      refine ⟨?_, Ext.refl _⟩
      (refine wX ?_)
      (repeat ((first | refine zI (by omega) ?_ | refine zE (by omega) (by omega) ?_ | refine zD (by omega) (by omega) ?_ | refine zY (by omega) ?_ | refine zN (by omega) ?_ | refine amin ?_ | refine amax ?_ | refine zU (by omega) ?_ | refine z8 (by omega) ?_ | refine zX (by omega) (by omega) ?_ | refine zR rfl ?_ | refine acellA ?_ | refine zB H b1 rfl ?_ | refine zC H b1 ?_ | (apply zL H; (· repeat first | exact .h | apply AtK.t); (· rfl)) | (apply zA H; (· repeat first | exact .h | apply AtK.t)) | (apply zS H; (· repeat first | exact .h | apply AtK.t); (· rfl); (conv => whnf); clear H; intro τ H) | rw [List.length_map]); (refine wX ?_)))
      refine acall (nPut n0) ?_
      rintro _ σ_ ⟨rfl, e_⟩
      obtain rfl := e_.symm
      (refine wX ?_)
      (repeat ((first | refine zI (by omega) ?_ | refine zE (by omega) (by omega) ?_ | refine zD (by omega) (by omega) ?_ | refine zY (by omega) ?_ | refine zN (by omega) ?_ | refine amin ?_ | refine amax ?_ | refine zU (by omega) ?_ | refine z8 (by omega) ?_ | refine zX (by omega) (by omega) ?_ | refine zR rfl ?_ | refine acellA ?_ | refine zB H b1 rfl ?_ | refine zC H b1 ?_ | (apply zL H; (· repeat first | exact .h | apply AtK.t); (· rfl)) | (apply zA H; (· repeat first | exact .h | apply AtK.t)) | (apply zS H; (· repeat first | exact .h | apply AtK.t); (· rfl); (conv => whnf); clear H; intro τ H) | rw [List.length_map]); (refine wX ?_)))
      refine acall (nDrop z 1) ?_
      rintro _ σ_ ⟨rfl, e_⟩
      obtain rfl := e_.symm
      (refine wX ?_)
      (repeat ((first | refine zI (by omega) ?_ | refine zE (by omega) (by omega) ?_ | refine zD (by omega) (by omega) ?_ | refine zY (by omega) ?_ | refine zN (by omega) ?_ | refine amin ?_ | refine amax ?_ | refine zU (by omega) ?_ | refine z8 (by omega) ?_ | refine zX (by omega) (by omega) ?_ | refine zR rfl ?_ | refine acellA ?_ | refine zB H b1 rfl ?_ | refine zC H b1 ?_ | (apply zL H; (· repeat first | exact .h | apply AtK.t); (· rfl)) | (apply zA H; (· repeat first | exact .h | apply AtK.t)) | (apply zS H; (· repeat first | exact .h | apply AtK.t); (· rfl); (conv => whnf); clear H; intro τ H) | rw [List.length_map]); (refine wX ?_)))
      refine acall (nSent z 1 0 0) ?_
      rintro _ σ_ ⟨rfl, e_⟩
      obtain rfl := e_.symm
      (refine wX ?_)
      (repeat ((first | refine zI (by omega) ?_ | refine zE (by omega) (by omega) ?_ | refine zD (by omega) (by omega) ?_ | refine zY (by omega) ?_ | refine zN (by omega) ?_ | refine amin ?_ | refine amax ?_ | refine zU (by omega) ?_ | refine z8 (by omega) ?_ | refine zX (by omega) (by omega) ?_ | refine zR rfl ?_ | refine acellA ?_ | refine zB H b1 rfl ?_ | refine zC H b1 ?_ | (apply zL H; (· repeat first | exact .h | apply AtK.t); (· rfl)) | (apply zA H; (· repeat first | exact .h | apply AtK.t)) | (apply zS H; (· repeat first | exact .h | apply AtK.t); (· rfl); (conv => whnf); clear H; intro τ H) | rw [List.length_map]); (refine wX ?_)))
      refine acall (nBytes n0) ?_
      rintro _ σ_ ⟨rfl, e_⟩
      obtain rfl := e_.symm
      refine ⟨?_, Ext.refl _⟩
      (refine wX ?_)
      refine acall (nCount n0 1) ?_
      rintro _ σ_ ⟨rfl, e_⟩
      obtain rfl := e_.symm
      refine ⟨?_, Ext.refl _⟩
      (refine wX ?_)
      (repeat ((first | refine zI (by omega) ?_ | refine zE (by omega) (by omega) ?_ | refine zD (by omega) (by omega) ?_ | refine zY (by omega) ?_ | refine zN (by omega) ?_ | refine amin ?_ | refine amax ?_ | refine zU (by omega) ?_ | refine z8 (by omega) ?_ | refine zX (by omega) (by omega) ?_ | refine zR rfl ?_ | refine acellA ?_ | refine zB H b1 rfl ?_ | refine zC H b1 ?_ | (apply zL H; (· repeat first | exact .h | apply AtK.t); (· rfl)) | (apply zA H; (· repeat first | exact .h | apply AtK.t)) | (apply zS H; (· repeat first | exact .h | apply AtK.t); (· rfl); (conv => whnf); clear H; intro τ H) | rw [List.length_map]); (refine wX ?_)))
      refine acall (nNumbers n0) ?_
      rintro _ σ_ ⟨rfl, e_⟩
      obtain rfl := e_.symm
      refine ⟨?_, Ext.refl _⟩
      (refine wX ?_)
      refine afit_i64 (by simp) ?_
      (refine wX ?_)
      refine acall (nDues z rfl) ?_
      rintro _ σ_ ⟨rfl, e_⟩
      obtain rfl := e_.symm
      refine ⟨?_, Ext.refl _⟩
      (refine wX ?_)
      refine afit_i64 (by simp) ?_
      (refine wX ?_)
      refine acall (nDue z 1) ?_
      rintro _ σ_ ⟨rfl, e_⟩
      obtain rfl := e_.symm
      refine ⟨?_, Ext.refl _⟩
      (refine wX ?_)
      refine afit_i64 (by simp) ?_
      (refine wX ?_)
      exact aret (VLe.refl _) (Sub.refl _) ⟨rfl, (fin.join (H.left (L := []))).left (L := [])⟩
  obtain ⟨h1, h2⟩ := h
  have H := Hp.nil τ
  (repeat ((first | refine zI (by omega) ?_ | refine zE (by omega) (by omega) ?_ | refine zD (by omega) (by omega) ?_ | refine zY (by omega) ?_ | refine zN (by omega) ?_ | refine amin ?_ | refine amax ?_ | refine zU (by omega) ?_ | refine z8 (by omega) ?_ | refine zX (by omega) (by omega) ?_ | refine zR rfl ?_ | refine acellA ?_ | refine zB H b1 rfl ?_ | refine zC H b1 ?_ | (apply zL H; (· repeat first | exact .h | apply AtK.t); (· rfl)) | (apply zA H; (· repeat first | exact .h | apply AtK.t)) | (apply zS H; (· repeat first | exact .h | apply AtK.t); (· rfl); (conv => whnf); clear H; intro τ H) | rw [List.length_map]); (refine wX ?_)))
  obtain ⟨hfl, hsn⟩ := hb _ (List.getElem_mem h1)
  refine aget (by omega) (get_ops h1) ?_
  generalize ops[i] = o at *
  obtain ⟨kd, sn, x, y, pt⟩ := o
  dsimp only [] at hfl hsn
  unfold opV opC
  dsimp only []
  generalize pkT pt = p at *
  (refine wX ?_)
  (repeat ((first | refine zI (by omega) ?_ | refine zE (by omega) (by omega) ?_ | refine zD (by omega) (by omega) ?_ | refine zY (by omega) ?_ | refine zN (by omega) ?_ | refine amin ?_ | refine amax ?_ | refine zU (by omega) ?_ | refine z8 (by omega) ?_ | refine zX (by omega) (by omega) ?_ | refine zR rfl ?_ | refine acellA ?_ | refine zB H b1 rfl ?_ | refine zC H b1 ?_ | (apply zL H; (· repeat first | exact .h | apply AtK.t); (· rfl)) | (apply zA H; (· repeat first | exact .h | apply AtK.t)) | (apply zS H; (· repeat first | exact .h | apply AtK.t); (· rfl); (conv => whnf); clear H; intro τ H) | rw [List.length_map]); (refine wX ?_)))
  refine hnew H rfl ?_
  clear H
  intro io τ H
  (refine wX ?_)
  (repeat ((first | refine zI (by omega) ?_ | refine zE (by omega) (by omega) ?_ | refine zD (by omega) (by omega) ?_ | refine zY (by omega) ?_ | refine zN (by omega) ?_ | refine amin ?_ | refine amax ?_ | refine zU (by omega) ?_ | refine z8 (by omega) ?_ | refine zX (by omega) (by omega) ?_ | refine zR rfl ?_ | refine acellA ?_ | refine zB H b1 rfl ?_ | refine zC H b1 ?_ | (apply zL H; (· repeat first | exact .h | apply AtK.t); (· rfl)) | (apply zA H; (· repeat first | exact .h | apply AtK.t)) | (apply zS H; (· repeat first | exact .h | apply AtK.t); (· rfl); (conv => whnf); clear H; intro τ H) | rw [List.length_map]); (refine wX ?_)))
  refine acall (gGreat p.fs .none τ (by omega)) ?_
  rintro _ σ_ ⟨⟨gr, rfl, hgr⟩, e_⟩
  obtain rfl := e_.symm
  refine ⟨?_, Ext.refl _⟩
  cases gr
  case true =>
    (refine wX ?_)
    (repeat ((first | refine zI (by omega) ?_ | refine zE (by omega) (by omega) ?_ | refine zD (by omega) (by omega) ?_ | refine zY (by omega) ?_ | refine zN (by omega) ?_ | refine amin ?_ | refine amax ?_ | refine zU (by omega) ?_ | refine z8 (by omega) ?_ | refine zX (by omega) (by omega) ?_ | refine zR rfl ?_ | refine acellA ?_ | refine zB H b1 rfl ?_ | refine zC H b1 ?_ | (apply zL H; (· repeat first | exact .h | apply AtK.t); (· rfl)) | (apply zA H; (· repeat first | exact .h | apply AtK.t)) | (apply zS H; (· repeat first | exact .h | apply AtK.t); (· rfl); (conv => whnf); clear H; intro τ H) | rw [List.length_map]); (refine wX ?_)))
    refine acall (alive19 τ) ?_
    rintro _ σ_ ⟨rfl, e_⟩
    obtain rfl := e_.symm
    refine ⟨?_, Ext.refl _⟩
    (refine wX ?_)
    exact aret (VLe.refl _) (Sub.refl _) ⟨rfl, (M.push H).heap⟩
  have hsm := hgr rfl
  have h40 := hsm.1
  have hto := small_sumA hsm
  replace M := M.push H
  have b1 := M.at_
  clear H
  have H := Hp.nil τ
  (refine wX ?_)
  (repeat ((first | refine zI (by omega) ?_ | refine zE (by omega) (by omega) ?_ | refine zD (by omega) (by omega) ?_ | refine zY (by omega) ?_ | refine zN (by omega) ?_ | refine amin ?_ | refine amax ?_ | refine zU (by omega) ?_ | refine z8 (by omega) ?_ | refine zX (by omega) (by omega) ?_ | refine zR rfl ?_ | refine acellA ?_ | refine zB H b1 rfl ?_ | refine zC H b1 ?_ | (apply zL H; (· repeat first | exact .h | apply AtK.t); (· rfl)) | (apply zA H; (· repeat first | exact .h | apply AtK.t)) | (apply zS H; (· repeat first | exact .h | apply AtK.t); (· rfl); (conv => whnf); clear H; intro τ H) | rw [List.length_map]); (refine wX ?_)))
  by_cases c0 : kd = 0
  case' pos =>
    (repeat ((first | refine zI (by omega) ?_ | refine zE (by omega) (by omega) ?_ | refine zD (by omega) (by omega) ?_ | refine zY (by omega) ?_ | refine zN (by omega) ?_ | refine amin ?_ | refine amax ?_ | refine zU (by omega) ?_ | refine z8 (by omega) ?_ | refine zX (by omega) (by omega) ?_ | refine zR rfl ?_ | refine acellA ?_ | refine zB H b1 rfl ?_ | refine zC H b1 ?_ | (apply zL H; (· repeat first | exact .h | apply AtK.t); (· rfl)) | (apply zA H; (· repeat first | exact .h | apply AtK.t)) | (apply zS H; (· repeat first | exact .h | apply AtK.t); (· rfl); (conv => whnf); clear H; intro τ H) | rw [List.length_map]); (refine wX ?_)))
    repeat' (first
      | ((with_reducible refine And.intro ?_ ?_) <;> (refine wX ?_))
      | (refine zB H b1 rfl ?_; (refine wX ?_))
      | (refine zC H b1 ?_; (refine wX ?_))
      | (refine acall (bPut1 M (by omega) p hsn (by omega) (by omega)) ?_; clear M b1 H; rintro _ τ ⟨q, rfl, M⟩; have b1 := M.at_; have H := Hp.nil τ; (refine wX ?_))
      | (refine acall (As10 p τ) ?_; rintro _ σ_ ⟨rfl, e_⟩; obtain rfl := e_.symm; refine ⟨?_, Ext.refl _⟩; (refine wX ?_))
      | (refine acall (bPut2 M (by omega) hsn (by omega) (by omega)) ?_; clear M b1 H; rintro _ τ ⟨rfl, M⟩; have H := Hp.nil τ; (refine wX ?_); rw [show decide (q = q) = true from decide_eq_true rfl]; (refine wX ?_)))
  case' neg =>
    by_cases c1 : kd = 1
    case' pos =>
      (repeat ((first | refine zI (by omega) ?_ | refine zE (by omega) (by omega) ?_ | refine zD (by omega) (by omega) ?_ | refine zY (by omega) ?_ | refine zN (by omega) ?_ | refine amin ?_ | refine amax ?_ | refine zU (by omega) ?_ | refine z8 (by omega) ?_ | refine zX (by omega) (by omega) ?_ | refine zR rfl ?_ | refine acellA ?_ | refine zB H b1 rfl ?_ | refine zC H b1 ?_ | (apply zL H; (· repeat first | exact .h | apply AtK.t); (· rfl)) | (apply zA H; (· repeat first | exact .h | apply AtK.t)) | (apply zS H; (· repeat first | exact .h | apply AtK.t); (· rfl); (conv => whnf); clear H; intro τ H) | rw [List.length_map]); (refine wX ?_)))
      refine acall (bAgain1 M (by omega) sn x y) ?_
      clear M b1 H
      rintro _ τ ⟨⟨q1, q2⟩, rfl, M⟩
      have b1 := M.at_
      have H := Hp.nil τ
      dsimp only
      (refine wX ?_)
      (repeat ((first | refine zI (by omega) ?_ | refine zE (by omega) (by omega) ?_ | refine zD (by omega) (by omega) ?_ | refine zY (by omega) ?_ | refine zN (by omega) ?_ | refine amin ?_ | refine amax ?_ | refine zU (by omega) ?_ | refine z8 (by omega) ?_ | refine zX (by omega) (by omega) ?_ | refine zR rfl ?_ | refine acellA ?_ | refine zB H b1 rfl ?_ | refine zC H b1 ?_ | (apply zL H; (· repeat first | exact .h | apply AtK.t); (· rfl)) | (apply zA H; (· repeat first | exact .h | apply AtK.t)) | (apply zS H; (· repeat first | exact .h | apply AtK.t); (· rfl); (conv => whnf); clear H; intro τ H) | rw [List.length_map]); (refine wX ?_)))
      refine acall (bAgain2 M (by omega)) ?_
      clear M b1 H
      rintro _ τ ⟨rfl, M⟩
      have H := Hp.nil τ
      dsimp only
      (refine wX ?_)
      (repeat ((first | refine zI (by omega) ?_ | refine zE (by omega) (by omega) ?_ | refine zD (by omega) (by omega) ?_ | refine zY (by omega) ?_ | refine zN (by omega) ?_ | refine amin ?_ | refine amax ?_ | refine zU (by omega) ?_ | refine z8 (by omega) ?_ | refine zX (by omega) (by omega) ?_ | refine zR rfl ?_ | refine acellA ?_ | refine zB H b1 rfl ?_ | refine zC H b1 ?_ | (apply zL H; (· repeat first | exact .h | apply AtK.t); (· rfl)) | (apply zA H; (· repeat first | exact .h | apply AtK.t)) | (apply zS H; (· repeat first | exact .h | apply AtK.t); (· rfl); (conv => whnf); clear H; intro τ H) | rw [List.length_map]); (refine wX ?_)))
      rw [show decide (q1 = q1) = true from decide_eq_true rfl]
      (refine wX ?_)
      rw [show decide (q2 = q2) = true from decide_eq_true rfl]
      (refine wX ?_)
    case' neg =>
      by_cases c2 : kd = 2
      case' pos =>
        (repeat ((first | refine zI (by omega) ?_ | refine zE (by omega) (by omega) ?_ | refine zD (by omega) (by omega) ?_ | refine zY (by omega) ?_ | refine zN (by omega) ?_ | refine amin ?_ | refine amax ?_ | refine zU (by omega) ?_ | refine z8 (by omega) ?_ | refine zX (by omega) (by omega) ?_ | refine zR rfl ?_ | refine acellA ?_ | refine zB H b1 rfl ?_ | refine zC H b1 ?_ | (apply zL H; (· repeat first | exact .h | apply AtK.t); (· rfl)) | (apply zA H; (· repeat first | exact .h | apply AtK.t)) | (apply zS H; (· repeat first | exact .h | apply AtK.t); (· rfl); (conv => whnf); clear H; intro τ H) | rw [List.length_map]); (refine wX ?_)))
        repeat' (first
          | ((with_reducible refine And.intro ?_ ?_) <;> (refine wX ?_))
          | (refine zB H b1 rfl ?_; (refine wX ?_))
          | (refine acall (bSent1 M (by omega) sn x y) ?_; clear M b1 H; rintro _ τ ⟨q, rfl, M⟩; have b1 := M.at_; have H := Hp.nil τ; (refine wX ?_))
          | (refine acall (bSent2 M (by omega)) ?_; clear M b1 H; rintro _ τ ⟨rfl, M⟩; replace M := MidS.more M (Nat.le_succ i); have H := Hp.nil τ; (refine wX ?_); rw [show decide (q = q) = true from decide_eq_true rfl]; (refine wX ?_)))
      case' neg =>
        by_cases c3 : kd = 3
        case' pos =>
          (repeat ((first | refine zI (by omega) ?_ | refine zE (by omega) (by omega) ?_ | refine zD (by omega) (by omega) ?_ | refine zY (by omega) ?_ | refine zN (by omega) ?_ | refine amin ?_ | refine amax ?_ | refine zU (by omega) ?_ | refine z8 (by omega) ?_ | refine zX (by omega) (by omega) ?_ | refine zR rfl ?_ | refine acellA ?_ | refine zB H b1 rfl ?_ | refine zC H b1 ?_ | (apply zL H; (· repeat first | exact .h | apply AtK.t); (· rfl)) | (apply zA H; (· repeat first | exact .h | apply AtK.t)) | (apply zS H; (· repeat first | exact .h | apply AtK.t); (· rfl); (conv => whnf); clear H; intro τ H) | rw [List.length_map]); (refine wX ?_)))
          repeat' (first
            | ((with_reducible refine And.intro ?_ ?_) <;> (refine wX ?_))
            | (refine zB H b1 rfl ?_; (refine wX ?_))
            | (refine acall (bDrop1 M (by omega) sn) ?_; clear M b1 H; rintro _ τ ⟨q, rfl, M⟩; have b1 := M.at_; have H := Hp.nil τ; (refine wX ?_))
            | (refine acall (bDrop2 M (by omega)) ?_; clear M b1 H; rintro _ τ ⟨rfl, M⟩; replace M := MidS.more M (Nat.le_succ i); have H := Hp.nil τ; (refine wX ?_); rw [show decide (q = q) = true from decide_eq_true rfl]; (refine wX ?_)))
        case' neg =>
          by_cases c4 : kd = 4
          case' pos =>
            (repeat ((first | refine zI (by omega) ?_ | refine zE (by omega) (by omega) ?_ | refine zD (by omega) (by omega) ?_ | refine zY (by omega) ?_ | refine zN (by omega) ?_ | refine amin ?_ | refine amax ?_ | refine zU (by omega) ?_ | refine z8 (by omega) ?_ | refine zX (by omega) (by omega) ?_ | refine zR rfl ?_ | refine acellA ?_ | refine zB H b1 rfl ?_ | refine zC H b1 ?_ | (apply zL H; (· repeat first | exact .h | apply AtK.t); (· rfl)) | (apply zA H; (· repeat first | exact .h | apply AtK.t)) | (apply zS H; (· repeat first | exact .h | apply AtK.t); (· rfl); (conv => whnf); clear H; intro τ H) | rw [List.length_map]); (refine wX ?_)))
            refine acall (bClear1 M) ?_
            clear M b1 H
            rintro _ τ ⟨rfl, im, w2, G2, hc2, H⟩
            (refine wX ?_)
            (repeat ((first | refine zI (by omega) ?_ | refine zE (by omega) (by omega) ?_ | refine zD (by omega) (by omega) ?_ | refine zY (by omega) ?_ | refine zN (by omega) ?_ | refine amin ?_ | refine amax ?_ | refine zU (by omega) ?_ | refine z8 (by omega) ?_ | refine zX (by omega) (by omega) ?_ | refine zR rfl ?_ | refine acellA ?_ | refine zB H b1 rfl ?_ | refine zC H b1 ?_ | (apply zL H; (· repeat first | exact .h | apply AtK.t); (· rfl)) | (apply zA H; (· repeat first | exact .h | apply AtK.t)) | (apply zS H; (· repeat first | exact .h | apply AtK.t); (· rfl); (conv => whnf); clear H; intro τ H) | rw [List.length_map]); (refine wX ?_)))
            have M : Both σ ist ix w (i + 1) _ τ := bMade H
            clear H
            have H := Hp.nil τ
          case' neg =>
            (repeat ((first | refine zI (by omega) ?_ | refine zE (by omega) (by omega) ?_ | refine zD (by omega) (by omega) ?_ | refine zY (by omega) ?_ | refine zN (by omega) ?_ | refine amin ?_ | refine amax ?_ | refine zU (by omega) ?_ | refine z8 (by omega) ?_ | refine zX (by omega) (by omega) ?_ | refine zR rfl ?_ | refine acellA ?_ | refine zB H b1 rfl ?_ | refine zC H b1 ?_ | (apply zL H; (· repeat first | exact .h | apply AtK.t); (· rfl)) | (apply zA H; (· repeat first | exact .h | apply AtK.t)) | (apply zS H; (· repeat first | exact .h | apply AtK.t); (· rfl); (conv => whnf); clear H; intro τ H) | rw [List.length_map]); (refine wX ?_)))
            replace M := MidS.more M (Nat.le_succ i)
  all_goals
    (repeat ((first | refine zI (by omega) ?_ | refine zE (by omega) (by omega) ?_ | refine zD (by omega) (by omega) ?_ | refine zY (by omega) ?_ | refine zN (by omega) ?_ | refine amin ?_ | refine amax ?_ | refine zU (by omega) ?_ | refine z8 (by omega) ?_ | refine zX (by omega) (by omega) ?_ | refine zR rfl ?_ | refine acellA ?_ | refine zB H b1 rfl ?_ | refine zC H b1 ?_ | (apply zL H; (· repeat first | exact .h | apply AtK.t); (· rfl)) | (apply zA H; (· repeat first | exact .h | apply AtK.t)) | (apply zS H; (· repeat first | exact .h | apply AtK.t); (· rfl); (conv => whnf); clear H; intro τ H) | rw [List.length_map]); (refine wX ?_)))
    refine acall (bTells M (by omega)) ?_
    clear M H
    rintro _ τ ⟨rfl, M, he⟩
    refine ⟨?_, he⟩
    have H := Hp.nil τ
    (refine wX ?_)
    (repeat ((first | refine zI (by omega) ?_ | refine zE (by omega) (by omega) ?_ | refine zD (by omega) (by omega) ?_ | refine zY (by omega) ?_ | refine zN (by omega) ?_ | refine amin ?_ | refine amax ?_ | refine zU (by omega) ?_ | refine z8 (by omega) ?_ | refine zX (by omega) (by omega) ?_ | refine zR rfl ?_ | refine acellA ?_ | refine zB H b1 rfl ?_ | refine zC H b1 ?_ | (apply zL H; (· repeat first | exact .h | apply AtK.t); (· rfl)) | (apply zA H; (· repeat first | exact .h | apply AtK.t)) | (apply zS H; (· repeat first | exact .h | apply AtK.t); (· rfl); (conv => whnf); clear H; intro τ H) | rw [List.length_map]); (refine wX ?_)))
    refine ⟨(i + 1, τ), ⟨by dsimp only; omega, by dsimp only; omega, MidS.pop (E := [_]) M⟩, by dsimp only; omega, Sub.refl _, ?_⟩
    (refine wX ?_)
    (repeat' first | with_reducible exact EnvLe.refl _ | (refine EnvLe.node ?_ (by first | exact Or.inl rfl | exact Or.inr (Or.inl rfl) | exact Or.inr (Or.inr ⟨nofun, VLe.slice _ _ _⟩)) ?_))
end Go.Proofs.Ytgobbmdbkmjlnaa
