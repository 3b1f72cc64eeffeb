/-
  Texts of this claim, pack 8: Cdrd, Cfrza, Cdre, Cdrf, Cdrg, Crxr, Crxt, Cpcs, Cresg.
-/
import Derived.Test.YtgobbmdbkmjlnaaK3
import Derived.Test.YtgobbmdbkmjlnaaK5
import Derived.Test.YtgobbmdbkmjlnaaK6
import Derived.Test.YtgobbmdbkmjlnaaK7
/-
  What came in parts, the document's: a piece, with a packet's bytes: rows of its own.
-/
namespace Go.Proofs.Ytgobbmdbkmjlnaa
set_option linter.unusedVariables false
set_option linter.unusedSimpArgs false
set_option maxRecDepth 20000
open Go Go.Am

/-- A row of single cells that is stored into, or none yet. -/
inductive RR : AVal → List AVal → List HE → Prop
  | nil : RR (.slice 1 [] .full) [] []
  | row (r : Nat) (l : List AVal) : l ≠ [] → RR (.ms r 1 0 l.length) l [.o r (.cells l)]
theorem RR.split {v : AVal} {xs : List AVal} {E : List HE} (h : RR v xs E) : (v = .slice 1 [] .full ∧ xs = [] ∧ E = []) ∨ ∃ r, v = .ms r 1 0 xs.length ∧ E = [.o r (.cells xs)] ∧ xs ≠ [] := by
  cases h with
  | nil => exact .inl ⟨rfl, rfl, rfl⟩
  | row r l hl => exact .inr ⟨r, rfl, rfl, hl⟩
theorem RR.row_of {v : AVal} {xs : List AVal} {E : List HE} (h : RR v xs E) (hn : xs ≠ []) : ∃ r, v = .ms r 1 0 xs.length ∧ E = [.o r (.cells xs)] := by
  rcases h.split with ⟨_, h, _⟩ | ⟨r, h1, h2, _⟩
  · exact absurd h hn
  · exact ⟨r, h1, h2⟩
theorem RR.isCell {v : AVal} {xs : List AVal} {E : List HE} (h : RR v xs E) : v.isCell = true := by cases h <;> rfl
theorem RR.cells1 {v : AVal} {xs : List AVal} {E : List HE} (h : RR v xs E) : v.cells = [v] := by cases h <;> rfl
/-- Cells that fill one place each. -/
structure Ones1 (ys : List AVal) : Prop where
  ok : ys.all (okElem 1) = true
  flat : ys.flatMap AVal.cells = ys
theorem ones_i (l : List Int) : Ones1 (l.map i64v) := ⟨by rw [List.all_eq_true]; intro x hx; obtain ⟨b, _, rfl⟩ := List.mem_map.1 hx; rfl, by
  induction l with
  | nil => rfl
  | cons b l ih => rw [List.map_cons, List.flatMap_cons, ih]; rfl⟩
theorem ones_b (l : List Bool) : Ones1 (l.map boolv) := ⟨truths_ok l, by
  induction l with
  | nil => rfl
  | cons b l ih => rw [List.map_cons, List.flatMap_cons, ih]; rfl⟩
section
variable {σb : AHeap}
theorem rr_appN {G : List HE} {τ : AHeap} (H : Hp σb G τ) {ys : List AVal} (ho : Ones1 ys) {b : Nat} (hl : ys.length * b ≤ 140737488355328) {K : AVal → AHeap → Prop}
    (hK : ∀ v' E' τ', RR v' ys E' → Hp σb (E' ++ G) τ' → K v' τ') : AAppNew τ 1 b [] .full ys K := by
  by_cases h : ys = []
  · subst h
    exact aappnew_none (by simp) (hK _ _ τ .nil H)
  · refine happnew H h hl ho.ok fun r τ' H' => ?_
    rw [ho.flat] at H'
    exact hK _ _ τ' (.row r ys h) H'
theorem rr_appM {G : List HE} {τ : AHeap} {r n : Nat} {xs : List AVal} (H : Hp σb (.o r (.cells xs) :: G) τ) (hx : xs ≠ []) (hn : n = xs.length) {ys : List AVal} (ho : Ones1 ys) {b : Nat} (hl : (xs.length + ys.length) * b ≤ 140737488355328) {K : AVal → AHeap → Prop}
    (hK : ∀ v' E' τ', RR v' (xs ++ ys) E' → Hp σb (E' ++ G) τ' → K v' τ') : AAppM τ r 1 0 n b ys K := by
  subst hn
  refine happm H (k := 0) rfl (by simp) hl ho.ok fun r2 τ' H' => ?_
  rw [ho.flat] at H'
  have := hK _ _ τ' (.row r2 (xs ++ ys) (by simp [hx])) H'
  rw [List.length_append] at this
  exact this
theorem row_put {L : List HE} {σ : AHeap} (H : Hp σb L σ) {k r off q : Nat} {xs : List AVal} {y : AVal} {K : AHeap → Prop} (hk : AtK L k (.o r (.cells xs))) (ho : off = q) (hq : q < xs.length) (hy : y.isCell = true)
    (hK : setLK L k (.o r (.cells (xs.set q y))) fun L' => ∀ τ', Hp σb L' τ' → K τ') : AStore σ r off [y] K := by
  subst ho
  refine astore (H.get hk.get) (by show _ + 1 ≤ _; omega) (by show (y.isCell && true) = true; rw [hy]; rfl) (l := xs.set off y) ?_ ((setLK_spec hK).2 _ (H.set hk.get _))
  unfold splice
  rw [List.set_eq_take_append_cons_drop, if_pos hq, List.append_assoc]; rfl
end
def widenB (B : List Int) (to : Nat) : List Int := B ++ List.replicate (to - B.length) (-1)
def widenG (G : List Bool) (to : Nat) : List Bool := G ++ List.replicate (to + 1 - G.length) false
def fillD (o : Nat) (dd : List UInt8) (B : List Int) : Nat → List Int
  | 0 => B
  | k + 1 => if ((fillD o dd B k)[o + k]?.getD 0) < 0 then (fillD o dd B k).set (o + k) (((dd[k]?.getD 0).toNat : Nat) : Int) else fillD o dd B k
theorem fillD_len (o : Nat) (dd : List UInt8) (B : List Int) : ∀ k, (fillD o dd B k).length = B.length
  | 0 => rfl
  | k + 1 => by
    unfold fillD
    split
    · rw [List.length_set, fillD_len]
    · exact fillD_len o dd B k
def edge1 (p : Pk) (G : List Bool) : List Bool := if p.off = 0 then G else if p.fi < 2 then G.set p.off.toNat true else G
def edgeN (p : Pk) (G : List Bool) : Nat → List Bool
  | 0 => G
  | k + 1 => (edgeN p G k).set (p.off.toNat + total (p.fs.take (k + 1))) true
theorem edge1_len (p : Pk) (G : List Bool) : (edge1 p G).length = G.length := by
  unfold edge1
  repeat' split
  all_goals first | rfl | exact List.length_set
theorem edgeN_len (p : Pk) (G : List Bool) : ∀ k, (edgeN p G k).length = G.length
  | 0 => rfl
  | k + 1 => by unfold edgeN; rw [List.length_set, edgeN_len]
def endP (p : Pk) : Nat := p.off.toNat + total p.fs
def edgeZ (p : Pk) (ends : Bool) (G : List Bool) : List Bool := if ends = true then G else if p.fi % 2 = 0 then G.set (endP p) true else G
def withB (d : DP) (p : Pk) : List Int := fillD p.off.toNat p.fs.flatten (widenB d.B (endP p)) (total p.fs)
def withG (d : DP) (p : Pk) (ends : Bool) : List Bool := edgeZ p ends (edgeN p (edge1 p (widenG d.G (endP p))) (p.fs.length - 1))
def withD (d : DP) (p : Pk) (ends : Bool) : DP :=
  ⟨d.sn, withB d p, if ends = true then (endP p : Int) else d.e, withG d p ends, if p.off = 0 then (d.wi || decide (2 ≤ p.fi)) else d.wi, if ends = true then (d.cu || decide (p.fi % 2 = 1)) else d.cu⟩
abbrev dpR (d : DP) (rB rG : Nat) : List AVal := [i64v d.sn, .ms rB 1 0 d.B.length, i64v d.e, .ms rG 1 0 d.G.length, boolv d.wi, boolv d.cu]
set_option maxHeartbeats 16000000 in
theorem eWithM (t : Tok) (d : DP) (p : Pk) (ends : Bool) (σ : AHeap) (hB : d.B.length ≤ 4000) (hG : d.G.length ≤ 4001) (ho : 0 ≤ p.off ∧ p.off ≤ 4000) (hfi : 0 ≤ p.fi ∧ p.fi ≤ 3) (hn : p.fs.length ≤ 24) (ht : p.off + total p.fs ≤ 4000) (hpos : 0 < total p.fs) :
    ACalls Try.prog i_bowlineref24_with [dpV t d, amV p, sl .none p.fs.flatten, boolv ends] σ fun v σ' => ∃ rB rG, v = .agg (dpR (withD d p ends) rB rG) ∧
      Hp σ [.o rB (.cells ((withD d p ends).B.map i64v)), .o rG (.cells ((withD d p ends).G.map boolv))] σ' := by
  obtain ⟨o, hoo⟩ : ∃ o : Nat, p.off = o := ⟨p.off.toNat, by omega⟩
  have hto : endP p = o + total p.fs := by unfold endP; rw [hoo]; rfl
  have hfl : p.fs.flatten.length = total p.fs := rfl
  refine km_bowlineref24_with rfl ?_
  have H := Hp.nil σ
  (refine wX ?_)
  refine hnew H rfl ?_
  clear H
  intro i4 τ H
  (refine wX ?_)
  refine hnew H rfl ?_
  clear H
  intro i5 τ H
  (refine wX ?_)
  refine hnew H rfl ?_
  clear H
  intro i8 τ H
  (refine wX ?_)
  (repeat ((first | refine zI (by omega) ?_ | refine zE (by omega) (by omega) ?_ | refine zD (by omega) (by omega) ?_ | refine zY (by omega) ?_ | refine zN (by omega) ?_ | refine amin ?_ | refine amax ?_ | refine zU (by omega) ?_ | refine z8 (by omega) ?_ | refine zX (by omega) (by omega) ?_ | refine zR rfl ?_ | refine acellA ?_ | (apply zL H; (· repeat first | exact .h | apply AtK.t); (· rfl)) | (apply zA H; (· repeat first | exact .h | apply AtK.t)) | (apply zS H; (· repeat first | exact .h | apply AtK.t); (· rfl); (conv => whnf); clear H; intro τ H) | rw [List.length_map]); (refine wX ?_)))
  refine hnew H rfl ?_
  clear H
  intro i9 τ H
  (refine wX ?_)
  (repeat ((first | refine zI (by omega) ?_ | refine zE (by omega) (by omega) ?_ | refine zD (by omega) (by omega) ?_ | refine zY (by omega) ?_ | refine zN (by omega) ?_ | refine amin ?_ | refine amax ?_ | refine zU (by omega) ?_ | refine z8 (by omega) ?_ | refine zX (by omega) (by omega) ?_ | refine zR rfl ?_ | refine acellA ?_ | (apply zL H; (· repeat first | exact .h | apply AtK.t); (· rfl)) | (apply zA H; (· repeat first | exact .h | apply AtK.t)) | (apply zS H; (· repeat first | exact .h | apply AtK.t); (· rfl); (conv => whnf); clear H; intro τ H) | rw [List.length_map]); (refine wX ?_)))
  have mv1 : ∀ {c9 : List AVal} {E : List HE} {τ : AHeap}, Hp σ (E ++ (.o i9 (.cells c9) :: .o i8 (.cells [i64v 0, .slice 1 [] .full, i64v 0, .slice 1 [] .full, boolv false, boolv false]) :: .o i5 (.cells (amV p).cells) :: .o i4 (.cells (dpC t d)) :: [])) τ → Hp σ (.o i9 (.cells c9) :: .o i8 (.cells [i64v 0, .slice 1 [] .full, i64v 0, .slice 1 [] .full, boolv false, boolv false]) :: .o i5 (.cells (amV p).cells) :: .o i4 (.cells (dpC t d)) :: E) τ := fun H => Hp.comm _ [_, _, _, _] H
  have mv2 : ∀ {c9 : List AVal} {E E2 : List HE} {τ : AHeap}, Hp σ (E2 ++ (.o i9 (.cells c9) :: .o i8 (.cells [i64v 0, .slice 1 [] .full, i64v 0, .slice 1 [] .full, boolv false, boolv false]) :: .o i5 (.cells (amV p).cells) :: .o i4 (.cells (dpC t d)) :: E)) τ → Hp σ (.o i9 (.cells c9) :: .o i8 (.cells [i64v 0, .slice 1 [] .full, i64v 0, .slice 1 [] .full, boolv false, boolv false]) :: .o i5 (.cells (amV p).cells) :: .o i4 (.cells (dpC t d)) :: (E2 ++ E)) τ := fun {c9 E E2 τ} H => Hp.mid (A := E2) (B := [_, _, _, _]) (C := E) H
  have mv3 : ∀ {c9 : List AVal} {E E2 : List HE} {τ : AHeap}, Hp σ (.o i9 (.cells c9) :: .o i8 (.cells [i64v 0, .slice 1 [] .full, i64v 0, .slice 1 [] .full, boolv false, boolv false]) :: .o i5 (.cells (amV p).cells) :: .o i4 (.cells (dpC t d)) :: (E2 ++ E)) τ → Hp σ (E2 ++ (.o i9 (.cells c9) :: .o i8 (.cells [i64v 0, .slice 1 [] .full, i64v 0, .slice 1 [] .full, boolv false, boolv false]) :: .o i5 (.cells (amV p).cells) :: .o i4 (.cells (dpC t d)) :: E)) τ := fun {c9 E E2 τ} H => Hp.mid (A := [_, _, _, _]) (B := E2) (C := E) H
  replace H : Hp σ (.o i9 (.cells [i64v d.sn, .slice 1 [] .full, i64v d.e, .slice 1 [] .full, boolv d.wi, boolv d.cu]) :: .o i8 (.cells [i64v 0, .slice 1 [] .full, i64v 0, .slice 1 [] .full, boolv false, boolv false]) :: .o i5 (.cells (amV p).cells) :: .o i4 (.cells (dpC t d)) :: []) τ := H
  apply via_loop (fun b Q => ∀ vB vG EB EG τ, RR vB (d.B.map i64v) EB → RR vG (d.G.map boolv) EG → Hp σ (.o i9 (.cells [i64v d.sn, vB, i64v d.e, vG, boolv d.wi, boolv d.cu]) :: .o i8 (.cells [i64v 0, .slice 1 [] .full, i64v 0, .slice 1 [] .full, boolv false, boolv false]) :: .o i5 (.cells (amV p).cells) :: .o i4 (.cells (dpC t d)) :: (EG ++ EB)) τ →
    setsK (Env.full 9) [(s2, sl .none p.fs.flatten), (s3, boolv ends), (s5, .ptr i5 0), (s8, .ptr i8 0), (s9, .ptr i9 0), (s10, i64v (endP p))] fun e => ALoop Try.prog c70m b e τ Q)
  case f =>
    intro hK
    repeat' (first
      | ((with_reducible refine And.intro ?_ ?_) <;> (refine wX ?_))
      | ((apply zL H; (· repeat first | exact .h | apply AtK.t); (· rfl)); (refine wX ?_))
      | (refine rr_appN H (ones_i d.B) (by rw [List.length_map]; omega) ?_; intro vB EB τ hvB H; replace H := mv1 H; (refine wX ?_))
      | (refine rr_appN H (ones_b d.G) (by rw [List.length_map]; omega) ?_; clear H; intro vG EG τ hvG H; replace H := mv2 H; (refine wX ?_)))
    all_goals
      rw [hvB.cells1]
      (refine wX ?_)
      refine zS H (k := 0) .h (by show (vB.isCell && true) = true; rw [hvB.isCell]; rfl) ?_
      (conv => whnf)
      clear H
      intro τ H
      (refine wX ?_)
      rw [hvG.cells1]
      (refine wX ?_)
      refine zS H (k := 0) .h (by show (vG.isCell && true) = true; rw [hvG.isCell]; rfl) ?_
      (conv => whnf)
      clear H
      intro τ H
      (refine wX ?_)
      (repeat ((first | refine zI (by omega) ?_ | refine zE (by omega) (by omega) ?_ | refine zD (by omega) (by omega) ?_ | refine zY (by omega) ?_ | refine zN (by omega) ?_ | refine amin ?_ | refine amax ?_ | refine zU (by omega) ?_ | refine z8 (by omega) ?_ | refine zX (by omega) (by omega) ?_ | refine zR rfl ?_ | refine acellA ?_ | (apply zL H; (· repeat first | exact .h | apply AtK.t); (· rfl)) | (apply zA H; (· repeat first | exact .h | apply AtK.t)) | (apply zS H; (· repeat first | exact .h | apply AtK.t); (· rfl); (conv => whnf); clear H; intro τ H) | rw [List.length_map]); (refine wX ?_)))
      rw [show (p.off + (p.fs.flatten.length : Int)) = (endP p : Int) by omega]
      refine aloop_from ?_ (hK () vB vG EB EG τ hvB hvG H)
      (repeat' first | with_reducible exact EnvLe.refl _ | (refine EnvLe.node ?_ (by first | exact Or.inl rfl | exact Or.inr (Or.inl rfl) | exact Or.inr (Or.inr ⟨nofun, VLe.slice _ _ _⟩)) ?_))
  intro vB vG EB EG τ1 hvB hvG H1
  (conv => whnf)
  clear H
  obtain ⟨n, hn0⟩ : ∃ n, n = endP p := ⟨_, rfl⟩
  rw [← hn0]
  rw [← hn0] at hto
  refine aloop (α := Nat × AVal × List HE × AHeap) (fun y => []) (fun y => y.2.2.2) (fun y => y.1 ≤ n - d.B.length ∧ RR y.2.1 ((d.B ++ List.replicate y.1 (-1)).map i64v) y.2.2.1 ∧
      Hp σ (.o i9 (.cells [i64v d.sn, y.2.1, i64v d.e, vG, boolv d.wi, boolv d.cu]) :: .o i8 (.cells [i64v 0, .slice 1 [] .full, i64v 0, .slice 1 [] .full, boolv false, boolv false]) :: .o i5 (.cells (amV p).cells) :: .o i4 (.cells (dpC t d)) :: (y.2.2.1 ++ EG)) y.2.2.2) (fun y => n - d.B.length - y.1)
    (0, vB, EB, τ1) ⟨Nat.zero_le _, by rw [show List.replicate 0 (-1 : Int) = [] from rfl, List.append_nil]; exact hvB, Hp.mid2 (A := [_, _, _, _]) (B := EG) (C := EB) (D := []) (by rw [List.append_nil]; exact H1) |> fun h => by rw [List.append_nil] at h; exact h⟩ (Sub.refl _) ?_ ?_
  · (refine wX ?_)
    (repeat' first | with_reducible exact EnvLe.refl _ | (refine EnvLe.node ?_ (by first | exact Or.inl rfl | exact Or.inr (Or.inl rfl) | exact Or.inr (Or.inr ⟨nofun, VLe.slice _ _ _⟩)) ?_))
  clear H1 hvB vB EB τ1
  rintro ⟨k, vB, EB, τ⟩ ⟨hk, hvB, H⟩
  dsimp only at hk hvB H ⊢
  have hxl : ((d.B ++ List.replicate k (-1)).map i64v).length = d.B.length + k := by simp
  obtain ⟨xs, hxs⟩ : ∃ xs, xs = (d.B ++ List.replicate k (-1)).map i64v := ⟨_, rfl⟩
  rw [← hxs] at hvB hxl
  (refine wX ?_)
  (repeat ((first | refine zI (by omega) ?_ | refine zE (by omega) (by omega) ?_ | refine zD (by omega) (by omega) ?_ | refine zY (by omega) ?_ | refine zN (by omega) ?_ | refine amin ?_ | refine amax ?_ | refine zU (by omega) ?_ | refine z8 (by omega) ?_ | refine zX (by omega) (by omega) ?_ | refine zR rfl ?_ | refine acellA ?_ | (apply zL H; (· repeat first | exact .h | apply AtK.t); (· rfl)) | (apply zA H; (· repeat first | exact .h | apply AtK.t)) | (apply zS H; (· repeat first | exact .h | apply AtK.t); (· rfl); (conv => whnf); clear H; intro τ H) | rw [List.length_map]); (refine wX ?_)))
  have hnext : (d.B ++ List.replicate (k + 1) (-1)).map i64v = xs ++ [-1].map i64v := by rw [hxs, ← List.map_append, List.append_assoc, List.replicate_succ']
  by_cases hlt : d.B.length + k < n
  case pos =>
    rcases hvB.split with ⟨rfl, hx0, rfl⟩ | ⟨r, rfl, rfl, hne⟩
    · (refine wX ?_)
      have h0 : d.B.length + k = 0 := by rw [← hxl, hx0]; rfl
      rw [show (([] : List AVal).length : Int) = 0 from rfl]
      (repeat ((first | refine zI (by omega) ?_ | refine zE (by omega) (by omega) ?_ | refine zD (by omega) (by omega) ?_ | refine zY (by omega) ?_ | refine zN (by omega) ?_ | refine amin ?_ | refine amax ?_ | refine zU (by omega) ?_ | refine z8 (by omega) ?_ | refine zX (by omega) (by omega) ?_ | refine zR rfl ?_ | refine acellA ?_ | (apply zL H; (· repeat first | exact .h | apply AtK.t); (· rfl)) | (apply zA H; (· repeat first | exact .h | apply AtK.t)) | (apply zS H; (· repeat first | exact .h | apply AtK.t); (· rfl); (conv => whnf); clear H; intro τ H) | rw [List.length_map]); (refine wX ?_)))
      refine rr_appN (b := 8) (ys := [i64v (-1)]) (mv3 H) (ones_i [-1]) (by simp) ?_
      clear H
      intro v2 E2 τ hv2 H
      replace H := mv2 H
      (refine wX ?_)
      (repeat ((first | refine zI (by omega) ?_ | refine zE (by omega) (by omega) ?_ | refine zD (by omega) (by omega) ?_ | refine zY (by omega) ?_ | refine zN (by omega) ?_ | refine amin ?_ | refine amax ?_ | refine zU (by omega) ?_ | refine z8 (by omega) ?_ | refine zX (by omega) (by omega) ?_ | refine zR rfl ?_ | refine acellA ?_ | (apply zL H; (· repeat first | exact .h | apply AtK.t); (· rfl)) | (apply zA H; (· repeat first | exact .h | apply AtK.t)) | (apply zS H; (· repeat first | exact .h | apply AtK.t); (· rfl); (conv => whnf); clear H; intro τ H) | rw [List.length_map]); (refine wX ?_)))
      rw [hv2.cells1]
      (refine wX ?_)
      refine zS H (k := 0) .h (by show (v2.isCell && true) = true; rw [hv2.isCell]; rfl) ?_
      (conv => whnf)
      clear H
      intro τ H
      (refine wX ?_)
      (repeat ((first | refine zI (by omega) ?_ | refine zE (by omega) (by omega) ?_ | refine zD (by omega) (by omega) ?_ | refine zY (by omega) ?_ | refine zN (by omega) ?_ | refine amin ?_ | refine amax ?_ | refine zU (by omega) ?_ | refine z8 (by omega) ?_ | refine zX (by omega) (by omega) ?_ | refine zR rfl ?_ | refine acellA ?_ | (apply zL H; (· repeat first | exact .h | apply AtK.t); (· rfl)) | (apply zA H; (· repeat first | exact .h | apply AtK.t)) | (apply zS H; (· repeat first | exact .h | apply AtK.t); (· rfl); (conv => whnf); clear H; intro τ H) | rw [List.length_map]); (refine wX ?_)))
      refine ⟨(k + 1, v2, E2, τ), ⟨by dsimp only; omega, by dsimp only; rw [hnext, hx0]; exact hv2, H⟩, by dsimp only; omega, Sub.refl _, ?_⟩
      (refine wX ?_)
      (repeat' first | with_reducible exact EnvLe.refl _ | (refine EnvLe.node ?_ (by first | exact Or.inl rfl | exact Or.inr (Or.inl rfl) | exact Or.inr (Or.inr ⟨nofun, VLe.slice _ _ _⟩)) ?_))
    · (refine wX ?_)
      (repeat ((first | refine zI (by omega) ?_ | refine zE (by omega) (by omega) ?_ | refine zD (by omega) (by omega) ?_ | refine zY (by omega) ?_ | refine zN (by omega) ?_ | refine amin ?_ | refine amax ?_ | refine zU (by omega) ?_ | refine z8 (by omega) ?_ | refine zX (by omega) (by omega) ?_ | refine zR rfl ?_ | refine acellA ?_ | (apply zL H; (· repeat first | exact .h | apply AtK.t); (· rfl)) | (apply zA H; (· repeat first | exact .h | apply AtK.t)) | (apply zS H; (· repeat first | exact .h | apply AtK.t); (· rfl); (conv => whnf); clear H; intro τ H) | rw [List.length_map]); (refine wX ?_)))
      refine rr_appM (b := 8) (ys := [i64v (-1)]) (mv3 (E2 := [.o r (.cells xs)]) H) hne rfl (ones_i [-1]) (by rw [hxl]; simp; omega) ?_
      clear H
      intro v2 E2 τ hv2 H
      replace H := mv2 H
      (refine wX ?_)
      (repeat ((first | refine zI (by omega) ?_ | refine zE (by omega) (by omega) ?_ | refine zD (by omega) (by omega) ?_ | refine zY (by omega) ?_ | refine zN (by omega) ?_ | refine amin ?_ | refine amax ?_ | refine zU (by omega) ?_ | refine z8 (by omega) ?_ | refine zX (by omega) (by omega) ?_ | refine zR rfl ?_ | refine acellA ?_ | (apply zL H; (· repeat first | exact .h | apply AtK.t); (· rfl)) | (apply zA H; (· repeat first | exact .h | apply AtK.t)) | (apply zS H; (· repeat first | exact .h | apply AtK.t); (· rfl); (conv => whnf); clear H; intro τ H) | rw [List.length_map]); (refine wX ?_)))
      rw [hv2.cells1]
      (refine wX ?_)
      refine zS H (k := 0) .h (by show (v2.isCell && true) = true; rw [hv2.isCell]; rfl) ?_
      (conv => whnf)
      clear H
      intro τ H
      (refine wX ?_)
      (repeat ((first | refine zI (by omega) ?_ | refine zE (by omega) (by omega) ?_ | refine zD (by omega) (by omega) ?_ | refine zY (by omega) ?_ | refine zN (by omega) ?_ | refine amin ?_ | refine amax ?_ | refine zU (by omega) ?_ | refine z8 (by omega) ?_ | refine zX (by omega) (by omega) ?_ | refine zR rfl ?_ | refine acellA ?_ | (apply zL H; (· repeat first | exact .h | apply AtK.t); (· rfl)) | (apply zA H; (· repeat first | exact .h | apply AtK.t)) | (apply zS H; (· repeat first | exact .h | apply AtK.t); (· rfl); (conv => whnf); clear H; intro τ H) | rw [List.length_map]); (refine wX ?_)))
      refine ⟨(k + 1, v2, E2, τ), ⟨by dsimp only; omega, by dsimp only; rw [hnext]; exact hv2, H⟩, by dsimp only; omega, Sub.refl _, ?_⟩
      (refine wX ?_)
      (repeat' first | with_reducible exact EnvLe.refl _ | (refine EnvLe.node ?_ (by first | exact Or.inl rfl | exact Or.inr (Or.inl rfl) | exact Or.inr (Or.inr ⟨nofun, VLe.slice _ _ _⟩)) ?_))
  have hk2 : k = n - d.B.length := by omega
  rcases hvB.split with ⟨rfl, hx0, rfl⟩ | ⟨rB, rfl, rfl, hne⟩
  · rw [hx0] at hxl; simp at hxl; omega
  obtain ⟨B1, hB1⟩ : ∃ B1, B1 = widenB d.B n := ⟨_, rfl⟩
  have hBw : xs = B1.map i64v := by rw [hxs, hk2, hB1]; rfl
  have hB1l : B1.length = d.B.length + k := by rw [← hxl, hBw, List.length_map]
  clear hxs hnext hxl hvB hne
  subst hBw
  rw [List.length_map] at H
  replace H : Hp σ (.o i9 (.cells [i64v d.sn, .ms rB 1 0 B1.length, i64v d.e, vG, boolv d.wi, boolv d.cu]) :: .o i8 (.cells [i64v 0, .slice 1 [] .full, i64v 0, .slice 1 [] .full, boolv false, boolv false]) :: .o i5 (.cells (amV p).cells) :: .o i4 (.cells (dpC t d)) :: (EG ++ [.o rB (.cells (B1.map i64v))])) τ := by
    have := Hp.mid2 (A := [.o i9 (.cells [i64v d.sn, .ms rB 1 0 B1.length, i64v d.e, vG, boolv d.wi, boolv d.cu]), .o i8 (.cells [i64v 0, .slice 1 [] .full, i64v 0, .slice 1 [] .full, boolv false, boolv false]), .o i5 (.cells (amV p).cells), .o i4 (.cells (dpC t d))]) (B := [.o rB (.cells (B1.map i64v))]) (C := EG) (D := []) (by rw [List.append_nil]; exact H)
    exact this
  (refine wX ?_)
  rw [List.length_map]
  (repeat ((first | refine zI (by omega) ?_ | refine zE (by omega) (by omega) ?_ | refine zD (by omega) (by omega) ?_ | refine zY (by omega) ?_ | refine zN (by omega) ?_ | refine amin ?_ | refine amax ?_ | refine zU (by omega) ?_ | refine z8 (by omega) ?_ | refine zX (by omega) (by omega) ?_ | refine zR rfl ?_ | refine acellA ?_ | (apply zL H; (· repeat first | exact .h | apply AtK.t); (· rfl)) | (apply zA H; (· repeat first | exact .h | apply AtK.t)) | (apply zS H; (· repeat first | exact .h | apply AtK.t); (· rfl); (conv => whnf); clear H; intro τ H) | rw [List.length_map]); (refine wX ?_)))
  refine aloop (α := Nat × AVal × List HE × AHeap) (fun y => []) (fun y => y.2.2.2) (fun y => y.1 ≤ n + 1 - d.G.length ∧ RR y.2.1 ((d.G ++ List.replicate y.1 false).map boolv) y.2.2.1 ∧
      Hp σ (.o i9 (.cells [i64v d.sn, .ms rB 1 0 B1.length, i64v d.e, y.2.1, boolv d.wi, boolv d.cu]) :: .o i8 (.cells [i64v 0, .slice 1 [] .full, i64v 0, .slice 1 [] .full, boolv false, boolv false]) :: .o i5 (.cells (amV p).cells) :: .o i4 (.cells (dpC t d)) :: (y.2.2.1 ++ [.o rB (.cells (B1.map i64v))])) y.2.2.2) (fun y => n + 1 - d.G.length - y.1)
    (0, vG, EG, τ) ⟨Nat.zero_le _, by rw [show List.replicate 0 false = [] from rfl, List.append_nil]; exact hvG, H⟩ (Sub.refl _) ?_ ?_
  · (refine wX ?_)
    (repeat' first | with_reducible exact EnvLe.refl _ | (refine EnvLe.node ?_ (by first | exact Or.inl rfl | exact Or.inr (Or.inl rfl) | exact Or.inr (Or.inr ⟨nofun, VLe.slice _ _ _⟩)) ?_))
  clear H hvG vG EG τ
  rintro ⟨j, vG, EG, τ⟩ ⟨hj, hvG, H⟩
  dsimp only at hj hvG H ⊢
  have hxl : ((d.G ++ List.replicate j false).map boolv).length = d.G.length + j := by simp
  obtain ⟨xs, hxs⟩ : ∃ xs, xs = (d.G ++ List.replicate j false).map boolv := ⟨_, rfl⟩
  rw [← hxs] at hvG hxl
  (refine wX ?_)
  (repeat ((first | refine zI (by omega) ?_ | refine zE (by omega) (by omega) ?_ | refine zD (by omega) (by omega) ?_ | refine zY (by omega) ?_ | refine zN (by omega) ?_ | refine amin ?_ | refine amax ?_ | refine zU (by omega) ?_ | refine z8 (by omega) ?_ | refine zX (by omega) (by omega) ?_ | refine zR rfl ?_ | refine acellA ?_ | (apply zL H; (· repeat first | exact .h | apply AtK.t); (· rfl)) | (apply zA H; (· repeat first | exact .h | apply AtK.t)) | (apply zS H; (· repeat first | exact .h | apply AtK.t); (· rfl); (conv => whnf); clear H; intro τ H) | rw [List.length_map]); (refine wX ?_)))
  have hnext : (d.G ++ List.replicate (j + 1) false).map boolv = xs ++ [false].map boolv := by rw [hxs, ← List.map_append, List.append_assoc, List.replicate_succ']
  by_cases hlt2 : d.G.length + j ≤ n
  case pos =>
    rcases hvG.split with ⟨rfl, hx0, rfl⟩ | ⟨r, rfl, rfl, hne⟩
    · (refine wX ?_)
      have h0 : d.G.length + j = 0 := by rw [← hxl, hx0]; rfl
      rw [show (([] : List AVal).length : Int) = 0 from rfl]
      (repeat ((first | refine zI (by omega) ?_ | refine zE (by omega) (by omega) ?_ | refine zD (by omega) (by omega) ?_ | refine zY (by omega) ?_ | refine zN (by omega) ?_ | refine amin ?_ | refine amax ?_ | refine zU (by omega) ?_ | refine z8 (by omega) ?_ | refine zX (by omega) (by omega) ?_ | refine zR rfl ?_ | refine acellA ?_ | (apply zL H; (· repeat first | exact .h | apply AtK.t); (· rfl)) | (apply zA H; (· repeat first | exact .h | apply AtK.t)) | (apply zS H; (· repeat first | exact .h | apply AtK.t); (· rfl); (conv => whnf); clear H; intro τ H) | rw [List.length_map]); (refine wX ?_)))
      refine rr_appN (b := 1) (ys := [boolv false]) (mv3 H) (ones_b [false]) (by simp) ?_
      clear H
      intro v2 E2 τ hv2 H
      replace H := mv2 H
      (refine wX ?_)
      (repeat ((first | refine zI (by omega) ?_ | refine zE (by omega) (by omega) ?_ | refine zD (by omega) (by omega) ?_ | refine zY (by omega) ?_ | refine zN (by omega) ?_ | refine amin ?_ | refine amax ?_ | refine zU (by omega) ?_ | refine z8 (by omega) ?_ | refine zX (by omega) (by omega) ?_ | refine zR rfl ?_ | refine acellA ?_ | (apply zL H; (· repeat first | exact .h | apply AtK.t); (· rfl)) | (apply zA H; (· repeat first | exact .h | apply AtK.t)) | (apply zS H; (· repeat first | exact .h | apply AtK.t); (· rfl); (conv => whnf); clear H; intro τ H) | rw [List.length_map]); (refine wX ?_)))
      rw [hv2.cells1]
      (refine wX ?_)
      refine zS H (k := 0) .h (by show (v2.isCell && true) = true; rw [hv2.isCell]; rfl) ?_
      (conv => whnf)
      clear H
      intro τ H
      (refine wX ?_)
      (repeat ((first | refine zI (by omega) ?_ | refine zE (by omega) (by omega) ?_ | refine zD (by omega) (by omega) ?_ | refine zY (by omega) ?_ | refine zN (by omega) ?_ | refine amin ?_ | refine amax ?_ | refine zU (by omega) ?_ | refine z8 (by omega) ?_ | refine zX (by omega) (by omega) ?_ | refine zR rfl ?_ | refine acellA ?_ | (apply zL H; (· repeat first | exact .h | apply AtK.t); (· rfl)) | (apply zA H; (· repeat first | exact .h | apply AtK.t)) | (apply zS H; (· repeat first | exact .h | apply AtK.t); (· rfl); (conv => whnf); clear H; intro τ H) | rw [List.length_map]); (refine wX ?_)))
      refine ⟨(j + 1, v2, E2, τ), ⟨by dsimp only; omega, by dsimp only; rw [hnext, hx0]; exact hv2, H⟩, by dsimp only; omega, Sub.refl _, ?_⟩
      (refine wX ?_)
      (repeat' first | with_reducible exact EnvLe.refl _ | (refine EnvLe.node ?_ (by first | exact Or.inl rfl | exact Or.inr (Or.inl rfl) | exact Or.inr (Or.inr ⟨nofun, VLe.slice _ _ _⟩)) ?_))
    · (refine wX ?_)
      (repeat ((first | refine zI (by omega) ?_ | refine zE (by omega) (by omega) ?_ | refine zD (by omega) (by omega) ?_ | refine zY (by omega) ?_ | refine zN (by omega) ?_ | refine amin ?_ | refine amax ?_ | refine zU (by omega) ?_ | refine z8 (by omega) ?_ | refine zX (by omega) (by omega) ?_ | refine zR rfl ?_ | refine acellA ?_ | (apply zL H; (· repeat first | exact .h | apply AtK.t); (· rfl)) | (apply zA H; (· repeat first | exact .h | apply AtK.t)) | (apply zS H; (· repeat first | exact .h | apply AtK.t); (· rfl); (conv => whnf); clear H; intro τ H) | rw [List.length_map]); (refine wX ?_)))
      refine rr_appM (b := 1) (ys := [boolv false]) (mv3 (E2 := [.o r (.cells xs)]) H) hne rfl (ones_b [false]) (by rw [hxl]; simp; omega) ?_
      clear H
      intro v2 E2 τ hv2 H
      replace H := mv2 H
      (refine wX ?_)
      (repeat ((first | refine zI (by omega) ?_ | refine zE (by omega) (by omega) ?_ | refine zD (by omega) (by omega) ?_ | refine zY (by omega) ?_ | refine zN (by omega) ?_ | refine amin ?_ | refine amax ?_ | refine zU (by omega) ?_ | refine z8 (by omega) ?_ | refine zX (by omega) (by omega) ?_ | refine zR rfl ?_ | refine acellA ?_ | (apply zL H; (· repeat first | exact .h | apply AtK.t); (· rfl)) | (apply zA H; (· repeat first | exact .h | apply AtK.t)) | (apply zS H; (· repeat first | exact .h | apply AtK.t); (· rfl); (conv => whnf); clear H; intro τ H) | rw [List.length_map]); (refine wX ?_)))
      rw [hv2.cells1]
      (refine wX ?_)
      refine zS H (k := 0) .h (by show (v2.isCell && true) = true; rw [hv2.isCell]; rfl) ?_
      (conv => whnf)
      clear H
      intro τ H
      (refine wX ?_)
      (repeat ((first | refine zI (by omega) ?_ | refine zE (by omega) (by omega) ?_ | refine zD (by omega) (by omega) ?_ | refine zY (by omega) ?_ | refine zN (by omega) ?_ | refine amin ?_ | refine amax ?_ | refine zU (by omega) ?_ | refine z8 (by omega) ?_ | refine zX (by omega) (by omega) ?_ | refine zR rfl ?_ | refine acellA ?_ | (apply zL H; (· repeat first | exact .h | apply AtK.t); (· rfl)) | (apply zA H; (· repeat first | exact .h | apply AtK.t)) | (apply zS H; (· repeat first | exact .h | apply AtK.t); (· rfl); (conv => whnf); clear H; intro τ H) | rw [List.length_map]); (refine wX ?_)))
      refine ⟨(j + 1, v2, E2, τ), ⟨by dsimp only; omega, by dsimp only; rw [hnext]; exact hv2, H⟩, by dsimp only; omega, Sub.refl _, ?_⟩
      (refine wX ?_)
      (repeat' first | with_reducible exact EnvLe.refl _ | (refine EnvLe.node ?_ (by first | exact Or.inl rfl | exact Or.inr (Or.inl rfl) | exact Or.inr (Or.inr ⟨nofun, VLe.slice _ _ _⟩)) ?_))
  have hj2 : j = n + 1 - d.G.length := by omega
  rcases hvG.split with ⟨rfl, hx0, rfl⟩ | ⟨rG, rfl, rfl, hne⟩
  · rw [hx0] at hxl; simp at hxl; omega
  obtain ⟨G1, hG1⟩ : ∃ G1, G1 = widenG d.G n := ⟨_, rfl⟩
  have hGw : xs = G1.map boolv := by rw [hxs, hj2, hG1]; rfl
  have hG1l : G1.length = d.G.length + j := by rw [← hxl, hGw, List.length_map]
  clear hxs hnext hxl hvG hne
  subst hGw
  rw [List.length_map] at H
  replace H : Hp σ (.o i9 (.cells [i64v d.sn, .ms rB 1 0 B1.length, i64v d.e, .ms rG 1 0 G1.length, boolv d.wi, boolv d.cu]) :: .o i8 (.cells [i64v 0, .slice 1 [] .full, i64v 0, .slice 1 [] .full, boolv false, boolv false]) :: .o i5 (.cells (amV p).cells) :: .o i4 (.cells (dpC t d)) :: .o rG (.cells (G1.map boolv)) :: .o rB (.cells (B1.map i64v)) :: []) τ := H
  (refine wX ?_)
  rw [List.length_map]
  (repeat ((first | refine zI (by omega) ?_ | refine zE (by omega) (by omega) ?_ | refine zD (by omega) (by omega) ?_ | refine zY (by omega) ?_ | refine zN (by omega) ?_ | refine amin ?_ | refine amax ?_ | refine zU (by omega) ?_ | refine z8 (by omega) ?_ | refine zX (by omega) (by omega) ?_ | refine zR rfl ?_ | refine acellA ?_ | (apply zL H; (· repeat first | exact .h | apply AtK.t); (· rfl)) | (apply zA H; (· repeat first | exact .h | apply AtK.t)) | (apply zS H; (· repeat first | exact .h | apply AtK.t); (· rfl); (conv => whnf); clear H; intro τ H) | rw [List.length_map]); (refine wX ?_)))
  refine aloop (α := Nat × AHeap) (fun y => [(s11, i64v y.1)]) (fun y => y.2) (fun y => y.1 ≤ total p.fs ∧
      Hp σ (.o i9 (.cells [i64v d.sn, .ms rB 1 0 B1.length, i64v d.e, .ms rG 1 0 G1.length, boolv d.wi, boolv d.cu]) :: .o i8 (.cells [i64v 0, .slice 1 [] .full, i64v 0, .slice 1 [] .full, boolv false, boolv false]) :: .o i5 (.cells (amV p).cells) :: .o i4 (.cells (dpC t d)) :: .o rG (.cells (G1.map boolv)) :: .o rB (.cells ((fillD o p.fs.flatten B1 y.1).map i64v)) :: []) y.2) (fun y => total p.fs - y.1)
    (0, τ) ⟨Nat.zero_le _, H⟩ (Sub.refl _) ?_ ?_
  · (refine wX ?_)
    (repeat' first | with_reducible exact EnvLe.refl _ | (refine EnvLe.node ?_ (by first | exact Or.inl rfl | exact Or.inr (Or.inl rfl) | exact Or.inr (Or.inr ⟨nofun, VLe.slice _ _ _⟩)) ?_))
  clear H τ
  rintro ⟨i, τ⟩ ⟨hi, H⟩
  dsimp only at hi H ⊢
  have hCl := fillD_len o p.fs.flatten B1 i
  (refine wX ?_)
  (repeat ((first | refine zI (by omega) ?_ | refine zE (by omega) (by omega) ?_ | refine zD (by omega) (by omega) ?_ | refine zY (by omega) ?_ | refine zN (by omega) ?_ | refine amin ?_ | refine amax ?_ | refine zU (by omega) ?_ | refine z8 (by omega) ?_ | refine zX (by omega) (by omega) ?_ | refine zR rfl ?_ | refine acellA ?_ | (apply zL H; (· repeat first | exact .h | apply AtK.t); (· rfl)) | (apply zA H; (· repeat first | exact .h | apply AtK.t)) | (apply zS H; (· repeat first | exact .h | apply AtK.t); (· rfl); (conv => whnf); clear H; intro τ H) | rw [List.length_map]); (refine wX ?_)))
  by_cases hit : i < total p.fs
  case pos =>
    have hoi : o + i < (fillD o p.fs.flatten B1 i).length := by omega
    have hid : i < p.fs.flatten.length := by omega
    have hnx : fillD o p.fs.flatten B1 (i + 1) = if (fillD o p.fs.flatten B1 i)[o + i] < 0 then (fillD o p.fs.flatten B1 i).set (o + i) ((p.fs.flatten[i].toNat : Nat) : Int) else fillD o p.fs.flatten B1 i := by
      rw [fillD, List.getElem?_eq_getElem hoi, List.getElem?_eq_getElem hid]; rfl
    generalize fillD o p.fs.flatten B1 i = C at *
    have hidx : 0 + (p.off + (i : Int)).toNat * 1 = o + i := by omega
    (repeat ((first | refine zI (by omega) ?_ | refine zE (by omega) (by omega) ?_ | refine zD (by omega) (by omega) ?_ | refine zY (by omega) ?_ | refine zN (by omega) ?_ | refine amin ?_ | refine amax ?_ | refine zU (by omega) ?_ | refine z8 (by omega) ?_ | refine zX (by omega) (by omega) ?_ | refine zR rfl ?_ | refine acellA ?_ | (apply zL H; (· repeat first | exact .h | apply AtK.t); (· rfl)) | (apply zA H; (· repeat first | exact .h | apply AtK.t)) | (apply zS H; (· repeat first | exact .h | apply AtK.t); (· rfl); (conv => whnf); clear H; intro τ H) | rw [List.length_map]); (refine wX ?_)))
    refine hload H (k := 5) rfl (x := i64v C[o + i]) (by rw [hidx, List.getElem?_map, List.getElem?_eq_getElem hoi]; rfl) ?_
    (refine wX ?_)
    by_cases hneg : C[o + i] < 0
    · rw [if_pos hneg] at hnx
      (repeat ((first | refine zI (by omega) ?_ | refine zE (by omega) (by omega) ?_ | refine zD (by omega) (by omega) ?_ | refine zY (by omega) ?_ | refine zN (by omega) ?_ | refine amin ?_ | refine amax ?_ | refine zU (by omega) ?_ | refine z8 (by omega) ?_ | refine zX (by omega) (by omega) ?_ | refine zR rfl ?_ | refine acellA ?_ | (apply zL H; (· repeat first | exact .h | apply AtK.t); (· rfl)) | (apply zA H; (· repeat first | exact .h | apply AtK.t)) | (apply zS H; (· repeat first | exact .h | apply AtK.t); (· rfl); (conv => whnf); clear H; intro τ H) | rw [List.length_map]); (refine wX ?_)))
      have hbt : p.fs.flatten[i].toNat < 256 := p.fs.flatten[i].toNat_lt
      refine aget (by omega) (x := byteV p.fs.flatten[i]) (by rw [Int.toNat_natCast, List.getElem?_map, List.getElem?_eq_getElem hid]; rfl) ?_
      (refine wX ?_)
      refine acell rfl ?_
      (refine wX ?_)
      (repeat ((first | refine zI (by omega) ?_ | refine zE (by omega) (by omega) ?_ | refine zD (by omega) (by omega) ?_ | refine zY (by omega) ?_ | refine zN (by omega) ?_ | refine amin ?_ | refine amax ?_ | refine zU (by omega) ?_ | refine z8 (by omega) ?_ | refine zX (by omega) (by omega) ?_ | refine zR rfl ?_ | refine acellA ?_ | (apply zL H; (· repeat first | exact .h | apply AtK.t); (· rfl)) | (apply zA H; (· repeat first | exact .h | apply AtK.t)) | (apply zS H; (· repeat first | exact .h | apply AtK.t); (· rfl); (conv => whnf); clear H; intro τ H) | rw [List.length_map]); (refine wX ?_)))
      refine row_put H (k := 5) (q := o + i) (.t (.t (.t (.t (.t .h))))) hidx (by rw [List.length_map]; omega) rfl ?_
      (conv => whnf)
      clear H
      intro τ H
      (refine wX ?_)
      (repeat ((first | refine zI (by omega) ?_ | refine zE (by omega) (by omega) ?_ | refine zD (by omega) (by omega) ?_ | refine zY (by omega) ?_ | refine zN (by omega) ?_ | refine amin ?_ | refine amax ?_ | refine zU (by omega) ?_ | refine z8 (by omega) ?_ | refine zX (by omega) (by omega) ?_ | refine zR rfl ?_ | refine acellA ?_ | (apply zL H; (· repeat first | exact .h | apply AtK.t); (· rfl)) | (apply zA H; (· repeat first | exact .h | apply AtK.t)) | (apply zS H; (· repeat first | exact .h | apply AtK.t); (· rfl); (conv => whnf); clear H; intro τ H) | rw [List.length_map]); (refine wX ?_)))
      rw [show (C.map i64v).set (o + i) (.v (.int .i64 ((p.fs.flatten[i].toNat : Nat) : Int))) = (C.set (o + i) ((p.fs.flatten[i].toNat : Nat) : Int)).map i64v from List.map_set.symm] at H
      refine ⟨(i + 1, τ), ⟨hit, by dsimp only; rw [hnx]; exact H⟩, by dsimp only; omega, Sub.refl _, ?_⟩
      (refine wX ?_)
      (repeat' first | with_reducible exact EnvLe.refl _ | (refine EnvLe.node ?_ (by first | exact Or.inl rfl | exact Or.inr (Or.inl rfl) | exact Or.inr (Or.inr ⟨nofun, VLe.slice _ _ _⟩)) ?_))
    · rw [if_neg hneg] at hnx
      (repeat ((first | refine zI (by omega) ?_ | refine zE (by omega) (by omega) ?_ | refine zD (by omega) (by omega) ?_ | refine zY (by omega) ?_ | refine zN (by omega) ?_ | refine amin ?_ | refine amax ?_ | refine zU (by omega) ?_ | refine z8 (by omega) ?_ | refine zX (by omega) (by omega) ?_ | refine zR rfl ?_ | refine acellA ?_ | (apply zL H; (· repeat first | exact .h | apply AtK.t); (· rfl)) | (apply zA H; (· repeat first | exact .h | apply AtK.t)) | (apply zS H; (· repeat first | exact .h | apply AtK.t); (· rfl); (conv => whnf); clear H; intro τ H) | rw [List.length_map]); (refine wX ?_)))
      refine ⟨(i + 1, τ), ⟨hit, by dsimp only; rw [hnx]; exact H⟩, by dsimp only; omega, Sub.refl _, ?_⟩
      (refine wX ?_)
      (repeat' first | with_reducible exact EnvLe.refl _ | (refine EnvLe.node ?_ (by first | exact Or.inl rfl | exact Or.inr (Or.inl rfl) | exact Or.inr (Or.inr ⟨nofun, VLe.slice _ _ _⟩)) ?_))
  obtain rfl : i = total p.fs := by omega
  have hBe : (withD d p ends).B = fillD o p.fs.flatten B1 (total p.fs) := by
    show fillD p.off.toNat p.fs.flatten (widenB d.B (endP p)) (total p.fs) = _
    rw [← hn0, ← hB1, hoo]; rfl
  rw [← hBe] at H hCl
  have hGe : (withD d p ends).G = edgeZ p ends (edgeN p (edge1 p G1) (p.fs.length - 1)) := by
    show edgeZ p ends (edgeN p (edge1 p (widenG d.G (endP p))) (p.fs.length - 1)) = _
    rw [← hn0, ← hG1]
  obtain ⟨wi', hwi'⟩ : ∃ wi', wi' = if p.off = 0 then (d.wi || decide (2 ≤ p.fi)) else d.wi := ⟨_, rfl⟩
  (repeat ((first | refine zI (by omega) ?_ | refine zE (by omega) (by omega) ?_ | refine zD (by omega) (by omega) ?_ | refine zY (by omega) ?_ | refine zN (by omega) ?_ | refine amin ?_ | refine amax ?_ | refine zU (by omega) ?_ | refine z8 (by omega) ?_ | refine zX (by omega) (by omega) ?_ | refine zR rfl ?_ | refine acellA ?_ | (apply zL H; (· repeat first | exact .h | apply AtK.t); (· rfl)) | (apply zA H; (· repeat first | exact .h | apply AtK.t)) | (apply zS H; (· repeat first | exact .h | apply AtK.t); (· rfl); (conv => whnf); clear H; intro τ H) | rw [List.length_map]); (refine wX ?_)))
  apply via_loop (fun b Q => ∀ τ, Hp σ (.o i9 (.cells [i64v d.sn, .ms rB 1 0 B1.length, i64v d.e, .ms rG 1 0 G1.length, boolv wi', boolv d.cu]) :: .o i8 (.cells [i64v 0, .slice 1 [] .full, i64v 0, .slice 1 [] .full, boolv false, boolv false]) :: .o i5 (.cells (amV p).cells) :: .o i4 (.cells (dpC t d)) :: .o rG (.cells ((edge1 p G1).map boolv)) :: .o rB (.cells ((withD d p ends).B.map i64v)) :: []) τ →
    setsK (Env.full 9) [(s3, boolv ends), (s5, .ptr i5 0), (s8, .ptr i8 0), (s9, .ptr i9 0), (s10, i64v n), (s12, i64v p.off), (s13, i64v 0)] fun e => ALoop Try.prog c70m b e τ Q)
  case f =>
    intro hK
    have H := H
    by_cases h0 : p.off = 0
    · have e1 : edge1 p G1 = G1 := by unfold edge1; rw [if_pos h0]
      rw [if_pos h0] at hwi'
      (refine wX ?_)
      (repeat ((first | refine zI (by omega) ?_ | refine zE (by omega) (by omega) ?_ | refine zD (by omega) (by omega) ?_ | refine zY (by omega) ?_ | refine zN (by omega) ?_ | refine amin ?_ | refine amax ?_ | refine zU (by omega) ?_ | refine z8 (by omega) ?_ | refine zX (by omega) (by omega) ?_ | refine zR rfl ?_ | refine acellA ?_ | (apply zL H; (· repeat first | exact .h | apply AtK.t); (· rfl)) | (apply zA H; (· repeat first | exact .h | apply AtK.t)) | (apply zS H; (· repeat first | exact .h | apply AtK.t); (· rfl); (conv => whnf); clear H; intro τ H) | rw [List.length_map]); (refine wX ?_)))
      rcases (show d.wi = false ∨ d.wi = true by cases d.wi <;> simp) with hw | hw
      · rw [hw, Bool.false_or] at hwi'
        rw [hw]
        (refine wX ?_)
        (repeat ((first | refine zI (by omega) ?_ | refine zE (by omega) (by omega) ?_ | refine zD (by omega) (by omega) ?_ | refine zY (by omega) ?_ | refine zN (by omega) ?_ | refine amin ?_ | refine amax ?_ | refine zU (by omega) ?_ | refine z8 (by omega) ?_ | refine zX (by omega) (by omega) ?_ | refine zR rfl ?_ | refine acellA ?_ | (apply zL H; (· repeat first | exact .h | apply AtK.t); (· rfl)) | (apply zA H; (· repeat first | exact .h | apply AtK.t)) | (apply zS H; (· repeat first | exact .h | apply AtK.t); (· rfl); (conv => whnf); clear H; intro τ H) | rw [List.length_map]); (refine wX ?_)))
        refine aloop_from ?_ (hK () τ (by rw [hwi', e1, show decide (2 ≤ p.fi) = @decide (2 ≤ p.fi) (leDec 2 p.fi) from dec_congr Iff.rfl]; exact H))
        (repeat' first | with_reducible exact EnvLe.refl _ | (refine EnvLe.node ?_ (by first | exact Or.inl rfl | exact Or.inr (Or.inl rfl) | exact Or.inr (Or.inr ⟨nofun, VLe.slice _ _ _⟩)) ?_))
      · rw [hw, Bool.true_or] at hwi'
        rw [hw]
        (refine wX ?_)
        (repeat ((first | refine zI (by omega) ?_ | refine zE (by omega) (by omega) ?_ | refine zD (by omega) (by omega) ?_ | refine zY (by omega) ?_ | refine zN (by omega) ?_ | refine amin ?_ | refine amax ?_ | refine zU (by omega) ?_ | refine z8 (by omega) ?_ | refine zX (by omega) (by omega) ?_ | refine zR rfl ?_ | refine acellA ?_ | (apply zL H; (· repeat first | exact .h | apply AtK.t); (· rfl)) | (apply zA H; (· repeat first | exact .h | apply AtK.t)) | (apply zS H; (· repeat first | exact .h | apply AtK.t); (· rfl); (conv => whnf); clear H; intro τ H) | rw [List.length_map]); (refine wX ?_)))
        refine aloop_from ?_ (hK () τ (by rw [hwi', e1]; exact H))
        (repeat' first | with_reducible exact EnvLe.refl _ | (refine EnvLe.node ?_ (by first | exact Or.inl rfl | exact Or.inr (Or.inl rfl) | exact Or.inr (Or.inr ⟨nofun, VLe.slice _ _ _⟩)) ?_))
    · rw [if_neg h0] at hwi'
      (refine wX ?_)
      (repeat ((first | refine zI (by omega) ?_ | refine zE (by omega) (by omega) ?_ | refine zD (by omega) (by omega) ?_ | refine zY (by omega) ?_ | refine zN (by omega) ?_ | refine amin ?_ | refine amax ?_ | refine zU (by omega) ?_ | refine z8 (by omega) ?_ | refine zX (by omega) (by omega) ?_ | refine zR rfl ?_ | refine acellA ?_ | (apply zL H; (· repeat first | exact .h | apply AtK.t); (· rfl)) | (apply zA H; (· repeat first | exact .h | apply AtK.t)) | (apply zS H; (· repeat first | exact .h | apply AtK.t); (· rfl); (conv => whnf); clear H; intro τ H) | rw [List.length_map]); (refine wX ?_)))
      by_cases h2 : p.fi < 2
      · have e1 : edge1 p G1 = G1.set o true := by unfold edge1; rw [if_neg h0, if_pos h2, hoo]; rfl
        (repeat ((first | refine zI (by omega) ?_ | refine zE (by omega) (by omega) ?_ | refine zD (by omega) (by omega) ?_ | refine zY (by omega) ?_ | refine zN (by omega) ?_ | refine amin ?_ | refine amax ?_ | refine zU (by omega) ?_ | refine z8 (by omega) ?_ | refine zX (by omega) (by omega) ?_ | refine zR rfl ?_ | refine acellA ?_ | (apply zL H; (· repeat first | exact .h | apply AtK.t); (· rfl)) | (apply zA H; (· repeat first | exact .h | apply AtK.t)) | (apply zS H; (· repeat first | exact .h | apply AtK.t); (· rfl); (conv => whnf); clear H; intro τ H) | rw [List.length_map]); (refine wX ?_)))
        refine row_put H (k := 4) (q := o) (.t (.t (.t (.t .h)))) (by omega) (by rw [List.length_map]; omega) rfl ?_
        (conv => whnf)
        clear H
        intro τ H
        rw [show (G1.map boolv).set o (.v (.bool true)) = (G1.set o true).map boolv from List.map_set.symm, ← e1] at H
        (refine wX ?_)
        (repeat ((first | refine zI (by omega) ?_ | refine zE (by omega) (by omega) ?_ | refine zD (by omega) (by omega) ?_ | refine zY (by omega) ?_ | refine zN (by omega) ?_ | refine amin ?_ | refine amax ?_ | refine zU (by omega) ?_ | refine z8 (by omega) ?_ | refine zX (by omega) (by omega) ?_ | refine zR rfl ?_ | refine acellA ?_ | (apply zL H; (· repeat first | exact .h | apply AtK.t); (· rfl)) | (apply zA H; (· repeat first | exact .h | apply AtK.t)) | (apply zS H; (· repeat first | exact .h | apply AtK.t); (· rfl); (conv => whnf); clear H; intro τ H) | rw [List.length_map]); (refine wX ?_)))
        refine aloop_from ?_ (hK () τ (by rw [hwi']; exact H))
        (repeat' first | with_reducible exact EnvLe.refl _ | (refine EnvLe.node ?_ (by first | exact Or.inl rfl | exact Or.inr (Or.inl rfl) | exact Or.inr (Or.inr ⟨nofun, VLe.slice _ _ _⟩)) ?_))
      · have e1 : edge1 p G1 = G1 := by unfold edge1; rw [if_neg h0, if_neg h2]
        (repeat ((first | refine zI (by omega) ?_ | refine zE (by omega) (by omega) ?_ | refine zD (by omega) (by omega) ?_ | refine zY (by omega) ?_ | refine zN (by omega) ?_ | refine amin ?_ | refine amax ?_ | refine zU (by omega) ?_ | refine z8 (by omega) ?_ | refine zX (by omega) (by omega) ?_ | refine zR rfl ?_ | refine acellA ?_ | (apply zL H; (· repeat first | exact .h | apply AtK.t); (· rfl)) | (apply zA H; (· repeat first | exact .h | apply AtK.t)) | (apply zS H; (· repeat first | exact .h | apply AtK.t); (· rfl); (conv => whnf); clear H; intro τ H) | rw [List.length_map]); (refine wX ?_)))
        refine aloop_from ?_ (hK () τ (by rw [hwi', e1]; exact H))
        (repeat' first | with_reducible exact EnvLe.refl _ | (refine EnvLe.node ?_ (by first | exact Or.inl rfl | exact Or.inr (Or.inl rfl) | exact Or.inr (Or.inr ⟨nofun, VLe.slice _ _ _⟩)) ?_))
  clear H τ
  intro τ H
  (conv => whnf)
  have hnf : 0 < p.fs.length := by
    rcases Nat.eq_zero_or_pos p.fs.length with h | h
    · rw [List.length_eq_zero_iff.1 h] at hpos; exact absurd hpos (by decide)
    · exact h
  have hG2l := edge1_len p G1
  refine aloop (α := Nat × AHeap) (fun y => [(s12, i64v (p.off + (total (p.fs.take y.1) : Int))), (s13, i64v y.1)]) (fun y => y.2) (fun y => y.1 ≤ p.fs.length - 1 ∧
    Hp σ (.o i9 (.cells [i64v d.sn, .ms rB 1 0 B1.length, i64v d.e, .ms rG 1 0 G1.length, boolv wi', boolv d.cu]) :: .o i8 (.cells [i64v 0, .slice 1 [] .full, i64v 0, .slice 1 [] .full, boolv false, boolv false]) :: .o i5 (.cells (amV p).cells) :: .o i4 (.cells (dpC t d)) :: .o rG (.cells ((edgeN p (edge1 p G1) y.1).map boolv)) :: .o rB (.cells ((withD d p ends).B.map i64v)) :: []) y.2) (fun y => p.fs.length - 1 - y.1)
    (0, τ) ⟨Nat.zero_le _, H⟩ (Sub.refl _) ?_ ?_
  · rw [show p.off + ((total (p.fs.take 0) : Nat) : Int) = p.off from Int.add_zero _]
    (refine wX ?_)
    (repeat' first | with_reducible exact EnvLe.refl _ | (refine EnvLe.node ?_ (by first | exact Or.inl rfl | exact Or.inr (Or.inl rfl) | exact Or.inr (Or.inr ⟨nofun, VLe.slice _ _ _⟩)) ?_))
  clear H τ
  rintro ⟨i, τ⟩ ⟨hi, H⟩
  dsimp only at hi H ⊢
  have hG3l := edgeN_len p (edge1 p G1) i
  (refine wX ?_)
  (repeat ((first | refine zI (by omega) ?_ | refine zE (by omega) (by omega) ?_ | refine zD (by omega) (by omega) ?_ | refine zY (by omega) ?_ | refine zN (by omega) ?_ | refine amin ?_ | refine amax ?_ | refine zU (by omega) ?_ | refine z8 (by omega) ?_ | refine zX (by omega) (by omega) ?_ | refine zR rfl ?_ | refine acellA ?_ | (apply zL H; (· repeat first | exact .h | apply AtK.t); (· rfl)) | (apply zA H; (· repeat first | exact .h | apply AtK.t)) | (apply zS H; (· repeat first | exact .h | apply AtK.t); (· rfl); (conv => whnf); clear H; intro τ H) | rw [List.length_map]); (refine wX ?_)))
  by_cases hlt3 : i + 1 < p.fs.length
  case pos =>
    have hts := total_take_succ p.fs i (by omega)
    have htl := total_take_le p.fs (i + 1)
    have hil : i < p.fs.length := by omega
    (repeat ((first | refine zI (by omega) ?_ | refine zE (by omega) (by omega) ?_ | refine zD (by omega) (by omega) ?_ | refine zY (by omega) ?_ | refine zN (by omega) ?_ | refine amin ?_ | refine amax ?_ | refine zU (by omega) ?_ | refine z8 (by omega) ?_ | refine zX (by omega) (by omega) ?_ | refine zR rfl ?_ | refine acellA ?_ | (apply zL H; (· repeat first | exact .h | apply AtK.t); (· rfl)) | (apply zA H; (· repeat first | exact .h | apply AtK.t)) | (apply zS H; (· repeat first | exact .h | apply AtK.t); (· rfl); (conv => whnf); clear H; intro τ H) | rw [List.length_map]); (refine wX ?_)))
    refine aget (by omega) (get_lists hil) ?_
    (refine wX ?_)
    (repeat ((first | refine zI (by omega) ?_ | refine zE (by omega) (by omega) ?_ | refine zD (by omega) (by omega) ?_ | refine zY (by omega) ?_ | refine zN (by omega) ?_ | refine amin ?_ | refine amax ?_ | refine zU (by omega) ?_ | refine z8 (by omega) ?_ | refine zX (by omega) (by omega) ?_ | refine zR rfl ?_ | refine acellA ?_ | (apply zL H; (· repeat first | exact .h | apply AtK.t); (· rfl)) | (apply zA H; (· repeat first | exact .h | apply AtK.t)) | (apply zS H; (· repeat first | exact .h | apply AtK.t); (· rfl); (conv => whnf); clear H; intro τ H) | rw [List.length_map]); (refine wX ?_)))
    refine row_put H (k := 4) (q := o + total (p.fs.take (i + 1))) (.t (.t (.t (.t .h)))) (by omega) (by rw [List.length_map]; omega) rfl ?_
    (conv => whnf)
    clear H
    intro τ H
    rw [show ((edgeN p (edge1 p G1) i).map boolv).set (o + total (p.fs.take (i + 1))) (.v (.bool true)) = (edgeN p (edge1 p G1) (i + 1)).map boolv by rw [edgeN, List.map_set, hoo]; rfl] at H
    (refine wX ?_)
    (repeat ((first | refine zI (by omega) ?_ | refine zE (by omega) (by omega) ?_ | refine zD (by omega) (by omega) ?_ | refine zY (by omega) ?_ | refine zN (by omega) ?_ | refine amin ?_ | refine amax ?_ | refine zU (by omega) ?_ | refine z8 (by omega) ?_ | refine zX (by omega) (by omega) ?_ | refine zR rfl ?_ | refine acellA ?_ | (apply zL H; (· repeat first | exact .h | apply AtK.t); (· rfl)) | (apply zA H; (· repeat first | exact .h | apply AtK.t)) | (apply zS H; (· repeat first | exact .h | apply AtK.t); (· rfl); (conv => whnf); clear H; intro τ H) | rw [List.length_map]); (refine wX ?_)))
    refine ⟨(i + 1, τ), ⟨by dsimp only; omega, H⟩, by dsimp only; omega, Sub.refl _, ?_⟩
    rw [show p.off + ((total (p.fs.take (i + 1)) : Nat) : Int) = p.off + ((total (p.fs.take i) : Nat) : Int) + (p.fs[i].length : Int) by omega]
    (refine wX ?_)
    (repeat' first | with_reducible exact EnvLe.refl _ | (refine EnvLe.node ?_ (by first | exact Or.inl rfl | exact Or.inr (Or.inl rfl) | exact Or.inr (Or.inr ⟨nofun, VLe.slice _ _ _⟩)) ?_))
  obtain rfl : i = p.fs.length - 1 := by omega
  have hBl : (withD d p ends).B.length = B1.length := hCl
  obtain ⟨G3, hG3⟩ : ∃ G3, G3 = edgeN p (edge1 p G1) (p.fs.length - 1) := ⟨_, rfl⟩
  rw [← hG3] at H hG3l hGe
  have hsn : (withD d p ends).sn = d.sn := rfl
  have hwi2 : (withD d p ends).wi = wi' := hwi'.symm
  have hfin : ∀ {e' : Int} {cu' : Bool} {τ : AHeap} {c9 : List AVal}, (withD d p ends).e = e' → (withD d p ends).cu = cu' → Hp σ (.o i9 (.cells c9) :: .o i8 (.cells [i64v d.sn, .ms rB 1 0 B1.length, i64v e', .ms rG 1 0 G1.length, boolv wi', boolv cu']) :: .o i5 (.cells (amV p).cells) :: .o i4 (.cells (dpC t d)) :: .o rG (.cells ((edgeZ p ends G3).map boolv)) :: .o rB (.cells ((withD d p ends).B.map i64v)) :: []) τ →
      ∃ rB' rG', AVal.agg [i64v d.sn, .ms rB 1 0 B1.length, i64v e', .ms rG 1 0 G1.length, boolv wi', boolv cu'] = .agg (dpR (withD d p ends) rB' rG') ∧ Hp σ [.o rB' (.cells ((withD d p ends).B.map i64v)), .o rG' (.cells ((withD d p ends).G.map boolv))] τ := by
    intro e' cu' τ c9 h1 h2 H
    refine ⟨rB, rG, ?_, ?_⟩
    · unfold dpR
      have hl : (edgeZ p ends G3).length = G1.length := by
        unfold edgeZ
        repeat' split
        all_goals first | (rw [List.length_set]; omega) | omega
      rw [hsn, h1, h2, hwi2, hBl, hGe, hl]
    · rw [hGe]
      exact Hp.comm [_] [_] H.tail.tail.tail.tail
  (repeat ((first | refine zI (by omega) ?_ | refine zE (by omega) (by omega) ?_ | refine zD (by omega) (by omega) ?_ | refine zY (by omega) ?_ | refine zN (by omega) ?_ | refine amin ?_ | refine amax ?_ | refine zU (by omega) ?_ | refine z8 (by omega) ?_ | refine zX (by omega) (by omega) ?_ | refine zR rfl ?_ | refine acellA ?_ | (apply zL H; (· repeat first | exact .h | apply AtK.t); (· rfl)) | (apply zA H; (· repeat first | exact .h | apply AtK.t)) | (apply zS H; (· repeat first | exact .h | apply AtK.t); (· rfl); (conv => whnf); clear H; intro τ H) | rw [List.length_map]); (refine wX ?_)))
  cases ends
  · have h1 : (withD d p false).e = d.e := rfl
    have h2 : (withD d p false).cu = d.cu := rfl
    (refine wX ?_)
    (repeat ((first | refine zI (by omega) ?_ | refine zE (by omega) (by omega) ?_ | refine zD (by omega) (by omega) ?_ | refine zY (by omega) ?_ | refine zN (by omega) ?_ | refine amin ?_ | refine amax ?_ | refine zU (by omega) ?_ | refine z8 (by omega) ?_ | refine zX (by omega) (by omega) ?_ | refine zR rfl ?_ | refine acellA ?_ | (apply zL H; (· repeat first | exact .h | apply AtK.t); (· rfl)) | (apply zA H; (· repeat first | exact .h | apply AtK.t)) | (apply zS H; (· repeat first | exact .h | apply AtK.t); (· rfl); (conv => whnf); clear H; intro τ H) | rw [List.length_map]); (refine wX ?_)))
    by_cases h3 : p.fi % 2 = 0
    · have e1 : edgeZ p false G3 = G3.set n true := by unfold edgeZ; rw [if_neg (by simp), if_pos h3, hn0]
      rw [e1] at hfin
      (repeat ((first | refine zI (by omega) ?_ | refine zE (by omega) (by omega) ?_ | refine zD (by omega) (by omega) ?_ | refine zY (by omega) ?_ | refine zN (by omega) ?_ | refine amin ?_ | refine amax ?_ | refine zU (by omega) ?_ | refine z8 (by omega) ?_ | refine zX (by omega) (by omega) ?_ | refine zR rfl ?_ | refine acellA ?_ | (apply zL H; (· repeat first | exact .h | apply AtK.t); (· rfl)) | (apply zA H; (· repeat first | exact .h | apply AtK.t)) | (apply zS H; (· repeat first | exact .h | apply AtK.t); (· rfl); (conv => whnf); clear H; intro τ H) | rw [List.length_map]); (refine wX ?_)))
      refine row_put H (k := 4) (q := n) (.t (.t (.t (.t .h)))) (by omega) (by rw [List.length_map]; omega) rfl ?_
      (conv => whnf)
      clear H
      intro τ H
      rw [show (G3.map boolv).set n (.v (.bool true)) = (G3.set n true).map boolv from List.map_set.symm] at H
      (refine wX ?_)
      (repeat ((first | refine zI (by omega) ?_ | refine zE (by omega) (by omega) ?_ | refine zD (by omega) (by omega) ?_ | refine zY (by omega) ?_ | refine zN (by omega) ?_ | refine amin ?_ | refine amax ?_ | refine zU (by omega) ?_ | refine z8 (by omega) ?_ | refine zX (by omega) (by omega) ?_ | refine zR rfl ?_ | refine acellA ?_ | (apply zL H; (· repeat first | exact .h | apply AtK.t); (· rfl)) | (apply zA H; (· repeat first | exact .h | apply AtK.t)) | (apply zS H; (· repeat first | exact .h | apply AtK.t); (· rfl); (conv => whnf); clear H; intro τ H) | rw [List.length_map]); (refine wX ?_)))
      exact aret (VLe.refl _) (Sub.refl _) (hfin h1 h2 H)
    · have e1 : edgeZ p false G3 = G3 := by unfold edgeZ; rw [if_neg (by simp), if_neg h3]
      rw [e1] at hfin
      (repeat ((first | refine zI (by omega) ?_ | refine zE (by omega) (by omega) ?_ | refine zD (by omega) (by omega) ?_ | refine zY (by omega) ?_ | refine zN (by omega) ?_ | refine amin ?_ | refine amax ?_ | refine zU (by omega) ?_ | refine z8 (by omega) ?_ | refine zX (by omega) (by omega) ?_ | refine zR rfl ?_ | refine acellA ?_ | (apply zL H; (· repeat first | exact .h | apply AtK.t); (· rfl)) | (apply zA H; (· repeat first | exact .h | apply AtK.t)) | (apply zS H; (· repeat first | exact .h | apply AtK.t); (· rfl); (conv => whnf); clear H; intro τ H) | rw [List.length_map]); (refine wX ?_)))
      exact aret (VLe.refl _) (Sub.refl _) (hfin h1 h2 H)
  · have h1 : (withD d p true).e = n := by show ((endP p : Nat) : Int) = _; rw [hn0]
    have h2 : (withD d p true).cu = (d.cu || decide (p.fi % 2 = 1)) := rfl
    have e1 : edgeZ p true G3 = G3 := by unfold edgeZ; rw [if_pos rfl]
    rw [e1] at hfin
    (refine wX ?_)
    (repeat ((first | refine zI (by omega) ?_ | refine zE (by omega) (by omega) ?_ | refine zD (by omega) (by omega) ?_ | refine zY (by omega) ?_ | refine zN (by omega) ?_ | refine amin ?_ | refine amax ?_ | refine zU (by omega) ?_ | refine z8 (by omega) ?_ | refine zX (by omega) (by omega) ?_ | refine zR rfl ?_ | refine acellA ?_ | (apply zL H; (· repeat first | exact .h | apply AtK.t); (· rfl)) | (apply zA H; (· repeat first | exact .h | apply AtK.t)) | (apply zS H; (· repeat first | exact .h | apply AtK.t); (· rfl); (conv => whnf); clear H; intro τ H) | rw [List.length_map]); (refine wX ?_)))
    rcases (show d.cu = false ∨ d.cu = true by cases d.cu <;> simp) with hw | hw
    · rw [hw, Bool.false_or] at h2
      rw [hw]
      (refine wX ?_)
      (repeat ((first | refine zI (by omega) ?_ | refine zE (by omega) (by omega) ?_ | refine zD (by omega) (by omega) ?_ | refine zY (by omega) ?_ | refine zN (by omega) ?_ | refine amin ?_ | refine amax ?_ | refine zU (by omega) ?_ | refine z8 (by omega) ?_ | refine zX (by omega) (by omega) ?_ | refine zR rfl ?_ | refine acellA ?_ | (apply zL H; (· repeat first | exact .h | apply AtK.t); (· rfl)) | (apply zA H; (· repeat first | exact .h | apply AtK.t)) | (apply zS H; (· repeat first | exact .h | apply AtK.t); (· rfl); (conv => whnf); clear H; intro τ H) | rw [List.length_map]); (refine wX ?_)))
      exact aret (VLe.refl _) (Sub.refl _) (hfin h1 h2 H)
    · rw [hw, Bool.true_or] at h2
      rw [hw]
      (refine wX ?_)
      (repeat ((first | refine zI (by omega) ?_ | refine zE (by omega) (by omega) ?_ | refine zD (by omega) (by omega) ?_ | refine zY (by omega) ?_ | refine zN (by omega) ?_ | refine amin ?_ | refine amax ?_ | refine zU (by omega) ?_ | refine z8 (by omega) ?_ | refine zX (by omega) (by omega) ?_ | refine zR rfl ?_ | refine acellA ?_ | (apply zL H; (· repeat first | exact .h | apply AtK.t); (· rfl)) | (apply zA H; (· repeat first | exact .h | apply AtK.t)) | (apply zS H; (· repeat first | exact .h | apply AtK.t); (· rfl); (conv => whnf); clear H; intro τ H) | rw [List.length_map]); (refine wX ?_)))
      exact aret (VLe.refl _) (Sub.refl _) (hfin h1 h2 H)
end Go.Proofs.Ytgobbmdbkmjlnaa
/-
  A row that was stored into, in something that a call gives back, becomes one that is not.
-/
namespace Go.Proofs.Ytgobbmdbkmjlnaa
set_option linter.unusedVariables false
set_option linter.unusedSimpArgs false
open Go Go.Am

/-- A call that gives something that holds a row of its own. -/
theorem acall_freezeA {P : Program} {f : FuncId} {args : List AVal} {σ : AHeap} {Q Q' : AVal → AHeap → Prop} (h : ACalls P f args σ Q)
    (k : ∀ v σ', Q v σ' → Q' v σ' ∨ ∃ r s n xs v', σ' r = some (.cells (xs.flatMap AVal.cells)) ∧ xs.length = n ∧ (∀ x ∈ xs, x.cells.length = s) ∧ (∀ κ u, (∀ z, RepV κ (.ms r s 0 n) z → RepV κ (.slice s xs .none) z) → RepV κ v u → RepV κ v' u) ∧ Q' v' (del σ' r)) : ACalls P f args σ Q' := by
  rw [ACalls_def] at h ⊢
  intro κ w cargs h1 h2
  refine (h κ w cargs h1 h2).mono fun e w' ⟨v, κ', σ', x, g1, g2, g3, g4, g5⟩ => ?_
  rcases k _ _ g5 with q | ⟨r, s, n, xs, v', q2, q3, q4, q5, q6⟩
  · exact ⟨v, κ', σ', x, g1, g2, g3, g4, q⟩
  · obtain ⟨b, c, e', vs0, us, k1, _⟩ := g3.cells r _ q2
    obtain ⟨κ2, vs, r1, r2, r3, r4⟩ := g3.still q2 k1
    refine ⟨v, κ2, _, v', g1, g2.trans r1, r2, q5 κ2 v (fun z hz => ?_) (g4.mono r1), q6⟩
    cases hz with
    | ms p1 p2 p3 p4 =>
      rw [r1.obj _ _ k1] at p1
      cases p1
      exact .slice (vs := vs) q3 p3 q4 (r3.mono r1) (fun i v k => by rw [Nat.zero_add]; exact r4 i v k) trivial
end Go.Proofs.Ytgobbmdbkmjlnaa
/-
  What came in parts, the document's: what is put in, and dropped.
-/
namespace Go.Proofs.Ytgobbmdbkmjlnaa
set_option linter.unusedVariables false
set_option linter.unusedSimpArgs false
set_option maxRecDepth 20000
open Go Go.Am

theorem agg_map1 {κ : Ghost} {a b b' c d e f : AVal} {u : Value} (hz : ∀ q, RepV κ b q → RepV κ b' q) (h : RepV κ (.agg [a, b, c, d, e, f]) u) : RepV κ (.agg [a, b', c, d, e, f]) u := by
  cases h with
  | agg k => cases k with
    | cons k1 k => cases k with
      | cons k2 k => exact .agg (.cons k1 (.cons (hz _ k2) k))
theorem agg_map3 {κ : Ghost} {a b c d d' e f : AVal} {u : Value} (hz : ∀ q, RepV κ d q → RepV κ d' q) (h : RepV κ (.agg [a, b, c, d, e, f]) u) : RepV κ (.agg [a, b, c, d', e, f]) u := by
  cases h with
  | agg k => cases k with
    | cons k1 k => cases k with
      | cons k2 k => cases k with
        | cons k3 k => cases k with
          | cons k4 k => exact .agg (.cons k1 (.cons k2 (.cons k3 (.cons (hz _ k4) k))))
theorem eWith (t : Tok) (d : DP) (p : Pk) (ends : Bool) (σ : AHeap) (hB : d.B.length ≤ 4000) (hG : d.G.length ≤ 4001) (ho : 0 ≤ p.off ∧ p.off ≤ 4000) (hfi : 0 ≤ p.fi ∧ p.fi ≤ 3) (hn : p.fs.length ≤ 24) (ht : p.off + total p.fs ≤ 4000) (hpos : 0 < total p.fs) :
    ACalls Try.prog i_bowlineref24_with [dpV t d, amV p, sl .none p.fs.flatten, boolv ends] σ fun v σ' => v = dpV .none (withD d p ends) ∧ Hp σ [] σ' := by
  have h1 := acall_freezeA (Q' := fun v σ' => ∃ rG, v = .agg [i64v (withD d p ends).sn, ints .none (withD d p ends).B, i64v (withD d p ends).e, .ms rG 1 0 (withD d p ends).G.length, boolv (withD d p ends).wi, boolv (withD d p ends).cu] ∧ Hp σ [.o rG (.cells ((withD d p ends).G.map boolv))] σ') (eWithM t d p ends σ hB hG ho hfi hn ht hpos) (by
    rintro v σ' ⟨rB, rG, rfl, H⟩
    refine .inr ⟨rB, 1, _, (withD d p ends).B.map i64v, _, by rw [(ones_i _).flat]; exact H.get (k := 0) rfl, List.length_map _, fun x hx => by obtain ⟨y, _, rfl⟩ := List.mem_map.1 hx; rfl, fun κ u hz h => agg_map1 hz h, rG, rfl, H.del_head⟩)
  refine acall_freezeA h1 ?_
  rintro v σ' ⟨rG, rfl, H⟩
  exact .inr ⟨rG, 1, _, (withD d p ends).G.map boolv, _, by rw [(ones_b _).flat]; exact H.get (k := 0) rfl, List.length_map _, fun x hx => by obtain ⟨y, _, rfl⟩ := List.mem_map.1 hx; rfl, fun κ u hz h => agg_map3 hz h, rfl, H.del_head⟩
def freshD (sn : Int) : DP := ⟨sn, [], -1, [], false, false⟩
def pieceD (l : List DP) (sn : Int) : DP := match l.find? fun d => d.sn == sn with
  | none => freshD sn
  | some d => d
def endsP (p : Pk) : Bool := !p.part || p.last
def putDc (l : List DP) (p : Pk) : Int :=
  if rightB p = false then 1 else
  if ((0 ≤ (pieceD l p.sn).e ∧ ((endP p : Int) > (pieceD l p.sn).e ∨ (endsP p = true ∧ (endP p : Int) ≠ (pieceD l p.sn).e))) ∨ (endsP p = true ∧ topT (thereL (pieceD l p.sn).B) (pieceD l p.sn).B.length > endP p)) then 3 else
  if ((cntT (thereL (pieceD l p.sn).B) (p.off, (endP p : Int)) : Nat) : Int) = total p.fs then 12 else
  if (runT (thereL (withB (pieceD l p.sn) p)) true (withB (pieceD l p.sn) p).length).length > 2048 then 5 else 0
theorem split_atD (l : List DP) (n : Int) : ∃ A B, l = A ++ B ∧ (∀ d ∈ A, d.sn < n) ∧ (∀ d B', B = d :: B' → ¬ d.sn < n) := by
  induction l with
  | nil => exact ⟨[], [], rfl, nofun, nofun⟩
  | cons d l ih =>
    by_cases h : d.sn < n
    · obtain ⟨A, B, rfl, h1, h2⟩ := ih
      refine ⟨d :: A, B, rfl, fun x hx => ?_, h2⟩
      rcases List.mem_cons.1 hx with rfl | hx
      · exact h
      · exact h1 x hx
    · exact ⟨[], d :: l, rfl, nofun, fun x B' e => by cases e; exact h⟩
theorem rangesR {p : Pk} (h : rightB p = true) : (0 ≤ p.off ∧ p.off ≤ 4000) ∧ (0 ≤ p.fi ∧ p.fi ≤ 3) ∧ p.fs.length ≤ 24 ∧ p.off + total p.fs ≤ 4000 ∧ 0 < total p.fs := by
  have hb : ¬ badB p := fun hb => by rw [right_bad hb] at h; cases h
  have hh : hollowB p.fs = false := by
    rcases (show hollowB p.fs = false ∨ hollowB p.fs = true by cases hollowB p.fs <;> simp) with q | q
    · exact q
    · rw [right_hollow q] at h; cases h
  rw [right_good hb hh] at h
  have h := of_decide_eq_true h
  unfold badB at hb
  simp only [not_or] at hb
  obtain ⟨a1, a2, a3, a4, a5, a6, a7⟩ := hb
  refine ⟨by omega, by omega, by omega, by omega, ?_⟩
  have h0 : 0 < p.fs.length := by omega
  have h1 := total_get (l := p.fs) (i := 0) h0
  have h2 : p.fs[0] ≠ [] := fun e => by
    have : hollowB p.fs = true := List.any_eq_true.2 ⟨p.fs[0], List.getElem_mem h0, decide_eq_true e⟩
    rw [hh] at this; cases this
  have h3 : 0 < p.fs[0].length := List.length_pos_iff.2 h2
  omega
structure DP.Ok (d : DP) : Prop where
  bl : d.B.length ≤ 4000
  gl : d.G.length ≤ 4001
  e : d.e = -1 ∨ (1 ≤ d.e ∧ d.e ≤ 4000 ∧ d.e < d.G.length ∧ d.e ≤ d.B.length)
  bv : ∀ z ∈ d.B, -1 ≤ z ∧ z < 256
theorem freshD_ok (sn : Int) : (freshD sn).Ok := ⟨Nat.zero_le _, Nat.zero_le _, .inl rfl, nofun⟩
abbrev bad3 (l : List DP) (p : Pk) : Prop := (0 ≤ (pieceD l p.sn).e ∧ ((endP p : Int) > (pieceD l p.sn).e ∨ (endsP p = true ∧ (endP p : Int) ≠ (pieceD l p.sn).e))) ∨ (endsP p = true ∧ topT (thereL (pieceD l p.sn).B) (pieceD l p.sn).B.length > endP p)
theorem put_1 {l : List DP} {p : Pk} (h : rightB p = false) : putDc l p = 1 := by unfold putDc; rw [if_pos h]
theorem put_3 {l : List DP} {p : Pk} (h : rightB p = true) (h2 : bad3 l p) : putDc l p = 3 := by unfold putDc; rw [if_neg (by rw [h]; simp), if_pos h2]
theorem put_12 {l : List DP} {p : Pk} (h : rightB p = true) (h2 : ¬ bad3 l p) (h3 : ((cntT (thereL (pieceD l p.sn).B) (p.off, (endP p : Int)) : Nat) : Int) = total p.fs) : putDc l p = 12 := by unfold putDc; rw [if_neg (by rw [h]; simp), if_neg h2, if_pos h3]
theorem put_5 {l : List DP} {p : Pk} (h : rightB p = true) (h2 : ¬ bad3 l p) (h3 : ¬ ((cntT (thereL (pieceD l p.sn).B) (p.off, (endP p : Int)) : Nat) : Int) = total p.fs) (h4 : (runT (thereL (withB (pieceD l p.sn) p)) true (withB (pieceD l p.sn) p).length).length > 2048) : putDc l p = 5 := by
  unfold putDc; rw [if_neg (by rw [h]; simp), if_neg h2, if_neg h3, if_pos h4]
theorem put_0 {l : List DP} {p : Pk} (h : rightB p = true) (h2 : ¬ bad3 l p) (h3 : ¬ ((cntT (thereL (pieceD l p.sn).B) (p.off, (endP p : Int)) : Nat) : Int) = total p.fs) (h4 : ¬ (runT (thereL (withB (pieceD l p.sn) p)) true (withB (pieceD l p.sn) p).length).length > 2048) : putDc l p = 0 := by
  unfold putDc; rw [if_neg (by rw [h]; simp), if_neg h2, if_neg h3, if_neg h4]
theorem withB_len (d : DP) (p : Pk) : (withB d p).length = max d.B.length (endP p) := by
  unfold withB
  rw [fillD_len]
  unfold widenB
  rw [List.length_append, List.length_replicate]; omega
section
variable {σb σ : AHeap} {ix : Nat} {tk : Tok} {l : List DP} {F : List HE}
theorem pieceD_ok (hok : ∀ d ∈ l, d.Ok) (sn : Int) : (pieceD l sn).Ok := by
  unfold pieceD
  cases h : l.find? (fun d => d.sn == sn) with
  | none => exact freshD_ok sn
  | some d => exact hok d (List.mem_of_find?_eq_some h)
set_option maxHeartbeats 8000000 in
theorem ePut (H : Hp σb (.o ix (.cells (dbC tk l)) :: F) σ) (hl : l.length ≤ 10000) (hok : ∀ d ∈ l, d.Ok) (hup : (l.map (·.sn)).Pairwise (· < ·)) (p : Pk) (hfl : p.fs.length ≤ 1000) (hto : total p.fs ≤ 1000000) :
    ACalls Try.prog i_bowlineref24_Buffer_Put [.ptr ix 0, amV p] σ fun v σ' => v = i64v (putDc l p) ∧ ∃ tk' l', Hp σb (.o ix (.cells (dbC tk' l')) :: F) σ' ∧
      ((putDc l p ≠ 0 ∧ l' = l) ∨ (putDc l p = 0 ∧ ∃ A B, (∀ d ∈ A, d.sn < p.sn) ∧ (∀ d ∈ B, p.sn < d.sn) ∧ l' = A ++ withD (pieceD l p.sn) p (endsP p) :: B ∧
        ((l = A ++ B ∧ pieceD l p.sn = freshD p.sn) ∨ (l = A ++ pieceD l p.sn :: B ∧ (pieceD l p.sn).sn = p.sn)))) := by
  have fin : ∀ {c : Int} {τ : AHeap}, putDc l p = c → c ≠ 0 → Hp σb (.o ix (.cells (dbC tk l)) :: F) τ → i64v c = i64v (putDc l p) ∧ ∃ tk' l', Hp σb (.o ix (.cells (dbC tk' l')) :: F) τ ∧
      ((putDc l p ≠ 0 ∧ l' = l) ∨ (putDc l p = 0 ∧ ∃ A B, (∀ d ∈ A, d.sn < p.sn) ∧ (∀ d ∈ B, p.sn < d.sn) ∧ l' = A ++ withD (pieceD l p.sn) p (endsP p) :: B ∧
        ((l = A ++ B ∧ pieceD l p.sn = freshD p.sn) ∨ (l = A ++ pieceD l p.sn :: B ∧ (pieceD l p.sn).sn = p.sn)))) := by
    rintro c τ rfl h H
    exact ⟨rfl, tk, l, H, .inl ⟨h, rfl⟩⟩
  refine k_bowlineref24_Buffer_Put rfl ?_
  (refine wX ?_)
  refine hnew H rfl ?_
  clear H
  intro i3 τ H
  (refine wX ?_)
  (repeat ((first | refine zI (by omega) ?_ | refine zE (by omega) (by omega) ?_ | refine zD (by omega) (by omega) ?_ | refine zY (by omega) ?_ | refine zN (by omega) ?_ | refine amin ?_ | refine amax ?_ | refine zU (by omega) ?_ | refine z8 (by omega) ?_ | refine zX (by omega) (by omega) ?_ | refine zR rfl ?_ | refine acellA ?_ | (apply zL H; (· repeat first | exact .h | apply AtK.t); (· rfl)) | (apply zA H; (· repeat first | exact .h | apply AtK.t)) | (apply zS H; (· repeat first | exact .h | apply AtK.t); (· rfl); (conv => whnf); clear H; intro τ H) | rw [List.length_map]); (refine wX ?_)))
  refine acall (eRight p τ hfl hto) ?_
  rintro _ σ_ ⟨rfl, e_⟩
  obtain rfl := e_.symm
  refine ⟨?_, Ext.refl _⟩
  (refine wX ?_)
  rcases (show rightB p = false ∨ rightB p = true by cases rightB p <;> simp) with hr | hr
  · rw [hr]
    (refine wX ?_)
    exact aret (VLe.refl _) (Sub.refl _) (fin (put_1 hr) (by decide) H.tail)
  obtain ⟨ho, hfi, hn, ht, hpos⟩ := rangesR hr
  rw [hr]
  have hfl2 : p.fs.flatten.length = total p.fs := rfl
  have hend : p.off + (total p.fs : Int) = (endP p : Int) := by unfold endP; omega
  have hxo := pieceD_ok hok p.sn
  have hbl := hxo.bl
  have hgl := hxo.gl
  have hxe := hxo.e
  have hwl := withB_len (pieceD l p.sn) p
  have htop := topT_le (thereL (pieceD l p.sn).B) (pieceD l p.sn).B.length
  (refine wX ?_)
  (repeat ((first | refine zI (by omega) ?_ | refine zE (by omega) (by omega) ?_ | refine zD (by omega) (by omega) ?_ | refine zY (by omega) ?_ | refine zN (by omega) ?_ | refine amin ?_ | refine amax ?_ | refine zU (by omega) ?_ | refine z8 (by omega) ?_ | refine zX (by omega) (by omega) ?_ | refine zR rfl ?_ | refine acellA ?_ | (apply zL H; (· repeat first | exact .h | apply AtK.t); (· rfl)) | (apply zA H; (· repeat first | exact .h | apply AtK.t)) | (apply zS H; (· repeat first | exact .h | apply AtK.t); (· rfl); (conv => whnf); clear H; intro τ H) | rw [List.length_map]); (refine wX ?_)))
  refine acall (rData10 p τ hfl hto) ?_
  rintro _ σ_ ⟨rfl, e_⟩
  obtain rfl := e_.symm
  refine ⟨?_, Ext.refl _⟩
  (refine wX ?_)
  (refine wX ?_)
  (repeat ((first | refine zI (by omega) ?_ | refine zE (by omega) (by omega) ?_ | refine zD (by omega) (by omega) ?_ | refine zY (by omega) ?_ | refine zN (by omega) ?_ | refine amin ?_ | refine amax ?_ | refine zU (by omega) ?_ | refine z8 (by omega) ?_ | refine zX (by omega) (by omega) ?_ | refine zR rfl ?_ | refine acellA ?_ | (apply zL H; (· repeat first | exact .h | apply AtK.t); (· rfl)) | (apply zA H; (· repeat first | exact .h | apply AtK.t)) | (apply zS H; (· repeat first | exact .h | apply AtK.t); (· rfl); (conv => whnf); clear H; intro τ H) | rw [List.length_map]); (refine wX ?_)))
  rw [show p.off + (p.fs.flatten.length : Int) = (endP p : Int) by omega]
  (refine wX ?_)
  apply via_loop (fun b Q => ∀ c9 i9 i10 τ, putDc l p = 0 → Hp σb (.o i10 (.cells (dpC .none (withD (pieceD l p.sn) p (endsP p)))) :: .o i9 c9 :: .o i3 (.cells (amV p).cells) :: .o ix (.cells (dbC tk l)) :: F) τ →
    setsK (Env.full 9) [(s0, .ptr ix 0), (s3, .ptr i3 0), (s8, i64v (findE l p.sn)), (s10, .ptr i10 0), (s11, .slice 6 [] .full), (s12, i64v 0)] fun e => ALoop Try.prog c17 b e τ Q)
  case f =>
    intro hK
    have H := H
    rcases (show p.part = false ∨ (p.part = true ∧ p.last = false) ∨ (p.part = true ∧ p.last = true) by cases p.part <;> cases p.last <;> simp) with hp | ⟨hp, hp2⟩ | ⟨hp, hp2⟩
    case' inl =>
      have hen : endsP p = true := by unfold endsP; rw [hp]; rfl
      have hp2 : True := trivial
    case' inr.inl =>
      have hen : endsP p = false := by unfold endsP; rw [hp, hp2]; rfl
    case' inr.inr =>
      have hen : endsP p = true := by unfold endsP; rw [hp, hp2]; rfl
    all_goals
      (repeat ((first | refine zI (by omega) ?_ | refine zE (by omega) (by omega) ?_ | refine zD (by omega) (by omega) ?_ | refine zY (by omega) ?_ | refine zN (by omega) ?_ | refine amin ?_ | refine amax ?_ | refine zU (by omega) ?_ | refine z8 (by omega) ?_ | refine zX (by omega) (by omega) ?_ | refine zR rfl ?_ | refine acellA ?_ | (apply zL H; (· repeat first | exact .h | apply AtK.t); (· rfl)) | (apply zA H; (· repeat first | exact .h | apply AtK.t)) | (apply zS H; (· repeat first | exact .h | apply AtK.t); (· rfl); (conv => whnf); clear H; intro τ H) | rw [List.length_map]); (refine wX ?_)))
      rw [hp]
      (refine wX ?_)
      (repeat ((first | refine zI (by omega) ?_ | refine zE (by omega) (by omega) ?_ | refine zD (by omega) (by omega) ?_ | refine zY (by omega) ?_ | refine zN (by omega) ?_ | refine amin ?_ | refine amax ?_ | refine zU (by omega) ?_ | refine z8 (by omega) ?_ | refine zX (by omega) (by omega) ?_ | refine zR rfl ?_ | refine acellA ?_ | (apply zL H; (· repeat first | exact .h | apply AtK.t); (· rfl)) | (apply zA H; (· repeat first | exact .h | apply AtK.t)) | (apply zS H; (· repeat first | exact .h | apply AtK.t); (· rfl); (conv => whnf); clear H; intro τ H) | rw [List.length_map]); (refine wX ?_)))
      try (rw [hp2]; (refine wX ?_); (repeat ((first | refine zI (by omega) ?_ | refine zE (by omega) (by omega) ?_ | refine zD (by omega) (by omega) ?_ | refine zY (by omega) ?_ | refine zN (by omega) ?_ | refine amin ?_ | refine amax ?_ | refine zU (by omega) ?_ | refine z8 (by omega) ?_ | refine zX (by omega) (by omega) ?_ | refine zR rfl ?_ | refine acellA ?_ | (apply zL H; (· repeat first | exact .h | apply AtK.t); (· rfl)) | (apply zA H; (· repeat first | exact .h | apply AtK.t)) | (apply zS H; (· repeat first | exact .h | apply AtK.t); (· rfl); (conv => whnf); clear H; intro τ H) | rw [List.length_map]); (refine wX ?_))))
      refine acall (eFind (H.get (k := 1) rfl) (by omega) p.sn) ?_
      rintro _ σ_ ⟨rfl, e_⟩
      obtain rfl := e_.symm
      refine ⟨?_, Ext.refl _⟩
      (refine wX ?_)
      (repeat ((first | refine zI (by omega) ?_ | refine zE (by omega) (by omega) ?_ | refine zD (by omega) (by omega) ?_ | refine zY (by omega) ?_ | refine zN (by omega) ?_ | refine amin ?_ | refine amax ?_ | refine zU (by omega) ?_ | refine z8 (by omega) ?_ | refine zX (by omega) (by omega) ?_ | refine zR rfl ?_ | refine acellA ?_ | (apply zL H; (· repeat first | exact .h | apply AtK.t); (· rfl)) | (apply zA H; (· repeat first | exact .h | apply AtK.t)) | (apply zS H; (· repeat first | exact .h | apply AtK.t); (· rfl); (conv => whnf); clear H; intro τ H) | rw [List.length_map]); (refine wX ?_)))
      refine hnew H rfl ?_
      clear H
      intro i9 τ H
      (refine wX ?_)
      (repeat ((first | refine zI (by omega) ?_ | refine zE (by omega) (by omega) ?_ | refine zD (by omega) (by omega) ?_ | refine zY (by omega) ?_ | refine zN (by omega) ?_ | refine amin ?_ | refine amax ?_ | refine zU (by omega) ?_ | refine z8 (by omega) ?_ | refine zX (by omega) (by omega) ?_ | refine zR rfl ?_ | refine acellA ?_ | (apply zL H; (· repeat first | exact .h | apply AtK.t); (· rfl)) | (apply zA H; (· repeat first | exact .h | apply AtK.t)) | (apply zS H; (· repeat first | exact .h | apply AtK.t); (· rfl); (conv => whnf); clear H; intro τ H) | rw [List.length_map]); (refine wX ?_)))
      rcases find_at l p.sn with ⟨f1, f2⟩ | ⟨i, hi, f1, f2⟩
      case' inl =>
        have hx : pieceD l p.sn = freshD p.sn := by unfold pieceD; rw [f2]
        replace H : Hp σb (.o i9 (.cells (dpC .full (pieceD l p.sn))) :: .o i3 (.cells (amV p).cells) :: .o ix (.cells (dbC tk l)) :: F) τ := by rw [hx]; exact H
        (repeat ((first | refine zI (by omega) ?_ | refine zE (by omega) (by omega) ?_ | refine zD (by omega) (by omega) ?_ | refine zY (by omega) ?_ | refine zN (by omega) ?_ | refine amin ?_ | refine amax ?_ | refine zU (by omega) ?_ | refine z8 (by omega) ?_ | refine zX (by omega) (by omega) ?_ | refine zR rfl ?_ | refine acellA ?_ | (apply zL H; (· repeat first | exact .h | apply AtK.t); (· rfl)) | (apply zA H; (· repeat first | exact .h | apply AtK.t)) | (apply zS H; (· repeat first | exact .h | apply AtK.t); (· rfl); (conv => whnf); clear H; intro τ H) | rw [List.length_map]); (refine wX ?_)))
      case' inr =>
        have hx : pieceD l p.sn = l[i] := by unfold pieceD; rw [f2]
        (repeat ((first | refine zI (by omega) ?_ | refine zE (by omega) (by omega) ?_ | refine zD (by omega) (by omega) ?_ | refine zY (by omega) ?_ | refine zN (by omega) ?_ | refine amin ?_ | refine amax ?_ | refine zU (by omega) ?_ | refine z8 (by omega) ?_ | refine zX (by omega) (by omega) ?_ | refine zR rfl ?_ | refine acellA ?_ | (apply zL H; (· repeat first | exact .h | apply AtK.t); (· rfl)) | (apply zA H; (· repeat first | exact .h | apply AtK.t)) | (apply zS H; (· repeat first | exact .h | apply AtK.t); (· rfl); (conv => whnf); clear H; intro τ H) | rw [List.length_map]); (refine wX ?_)))
        refine aget (by omega) (x := dpV .none l[i]) (by rw [f1]; exact get_dp hi) ?_
        rw [← hx]
        (refine wX ?_)
        (repeat ((first | refine zI (by omega) ?_ | refine zE (by omega) (by omega) ?_ | refine zD (by omega) (by omega) ?_ | refine zY (by omega) ?_ | refine zN (by omega) ?_ | refine amin ?_ | refine amax ?_ | refine zU (by omega) ?_ | refine z8 (by omega) ?_ | refine zX (by omega) (by omega) ?_ | refine zR rfl ?_ | refine acellA ?_ | (apply zL H; (· repeat first | exact .h | apply AtK.t); (· rfl)) | (apply zA H; (· repeat first | exact .h | apply AtK.t)) | (apply zS H; (· repeat first | exact .h | apply AtK.t); (· rfl); (conv => whnf); clear H; intro τ H) | rw [List.length_map]); (refine wX ?_)))
        replace H : Hp σb (.o i9 (.cells (dpC .none (pieceD l p.sn))) :: .o i3 (.cells (amV p).cells) :: .o ix (.cells (dbC tk l)) :: F) τ := H
      all_goals
        by_cases c1 : 0 ≤ (pieceD l p.sn).e
        case' pos =>
          (repeat ((first | refine zI (by omega) ?_ | refine zE (by omega) (by omega) ?_ | refine zD (by omega) (by omega) ?_ | refine zY (by omega) ?_ | refine zN (by omega) ?_ | refine amin ?_ | refine amax ?_ | refine zU (by omega) ?_ | refine z8 (by omega) ?_ | refine zX (by omega) (by omega) ?_ | refine zR rfl ?_ | refine acellA ?_ | (apply zL H; (· repeat first | exact .h | apply AtK.t); (· rfl)) | (apply zA H; (· repeat first | exact .h | apply AtK.t)) | (apply zS H; (· repeat first | exact .h | apply AtK.t); (· rfl); (conv => whnf); clear H; intro τ H) | rw [List.length_map]); (refine wX ?_)))
          by_cases c2 : (endP p : Int) > (pieceD l p.sn).e
          · (repeat ((first | refine zI (by omega) ?_ | refine zE (by omega) (by omega) ?_ | refine zD (by omega) (by omega) ?_ | refine zY (by omega) ?_ | refine zN (by omega) ?_ | refine amin ?_ | refine amax ?_ | refine zU (by omega) ?_ | refine z8 (by omega) ?_ | refine zX (by omega) (by omega) ?_ | refine zR rfl ?_ | refine acellA ?_ | (apply zL H; (· repeat first | exact .h | apply AtK.t); (· rfl)) | (apply zA H; (· repeat first | exact .h | apply AtK.t)) | (apply zS H; (· repeat first | exact .h | apply AtK.t); (· rfl); (conv => whnf); clear H; intro τ H) | rw [List.length_map]); (refine wX ?_)))
            exact aret (VLe.refl _) (Sub.refl _) (fin (put_3 hr (.inl ⟨c1, .inl c2⟩)) (by decide) H.tail.tail)
          (repeat ((first | refine zI (by omega) ?_ | refine zE (by omega) (by omega) ?_ | refine zD (by omega) (by omega) ?_ | refine zY (by omega) ?_ | refine zN (by omega) ?_ | refine amin ?_ | refine amax ?_ | refine zU (by omega) ?_ | refine z8 (by omega) ?_ | refine zX (by omega) (by omega) ?_ | refine zR rfl ?_ | refine acellA ?_ | (apply zL H; (· repeat first | exact .h | apply AtK.t); (· rfl)) | (apply zA H; (· repeat first | exact .h | apply AtK.t)) | (apply zS H; (· repeat first | exact .h | apply AtK.t); (· rfl); (conv => whnf); clear H; intro τ H) | rw [List.length_map]); (refine wX ?_)))
          try
            by_cases c3 : (endP p : Int) ≠ (pieceD l p.sn).e
            · (repeat ((first | refine zI (by omega) ?_ | refine zE (by omega) (by omega) ?_ | refine zD (by omega) (by omega) ?_ | refine zY (by omega) ?_ | refine zN (by omega) ?_ | refine amin ?_ | refine amax ?_ | refine zU (by omega) ?_ | refine z8 (by omega) ?_ | refine zX (by omega) (by omega) ?_ | refine zR rfl ?_ | refine acellA ?_ | (apply zL H; (· repeat first | exact .h | apply AtK.t); (· rfl)) | (apply zA H; (· repeat first | exact .h | apply AtK.t)) | (apply zS H; (· repeat first | exact .h | apply AtK.t); (· rfl); (conv => whnf); clear H; intro τ H) | rw [List.length_map]); (refine wX ?_)))
              exact aret (VLe.refl _) (Sub.refl _) (fin (put_3 hr (.inl ⟨c1, .inr ⟨hen, c3⟩⟩)) (by decide) H.tail.tail)
            (repeat ((first | refine zI (by omega) ?_ | refine zE (by omega) (by omega) ?_ | refine zD (by omega) (by omega) ?_ | refine zY (by omega) ?_ | refine zN (by omega) ?_ | refine amin ?_ | refine amax ?_ | refine zU (by omega) ?_ | refine z8 (by omega) ?_ | refine zX (by omega) (by omega) ?_ | refine zR rfl ?_ | refine acellA ?_ | (apply zL H; (· repeat first | exact .h | apply AtK.t); (· rfl)) | (apply zA H; (· repeat first | exact .h | apply AtK.t)) | (apply zS H; (· repeat first | exact .h | apply AtK.t); (· rfl); (conv => whnf); clear H; intro τ H) | rw [List.length_map]); (refine wX ?_)))
        case' neg =>
          (repeat ((first | refine zI (by omega) ?_ | refine zE (by omega) (by omega) ?_ | refine zD (by omega) (by omega) ?_ | refine zY (by omega) ?_ | refine zN (by omega) ?_ | refine amin ?_ | refine amax ?_ | refine zU (by omega) ?_ | refine z8 (by omega) ?_ | refine zX (by omega) (by omega) ?_ | refine zR rfl ?_ | refine acellA ?_ | (apply zL H; (· repeat first | exact .h | apply AtK.t); (· rfl)) | (apply zA H; (· repeat first | exact .h | apply AtK.t)) | (apply zS H; (· repeat first | exact .h | apply AtK.t); (· rfl); (conv => whnf); clear H; intro τ H) | rw [List.length_map]); (refine wX ?_)))
        all_goals
          try
            refine acall (eTop _ (pieceD l p.sn) τ (by omega)) ?_
            rintro _ σ_ ⟨rfl, e_⟩
            obtain rfl := e_.symm
            refine ⟨?_, Ext.refl _⟩
            (refine wX ?_)
            (repeat ((first | refine zI (by omega) ?_ | refine zE (by omega) (by omega) ?_ | refine zD (by omega) (by omega) ?_ | refine zY (by omega) ?_ | refine zN (by omega) ?_ | refine amin ?_ | refine amax ?_ | refine zU (by omega) ?_ | refine z8 (by omega) ?_ | refine zX (by omega) (by omega) ?_ | refine zR rfl ?_ | refine acellA ?_ | (apply zL H; (· repeat first | exact .h | apply AtK.t); (· rfl)) | (apply zA H; (· repeat first | exact .h | apply AtK.t)) | (apply zS H; (· repeat first | exact .h | apply AtK.t); (· rfl); (conv => whnf); clear H; intro τ H) | rw [List.length_map]); (refine wX ?_)))
            by_cases c4 : topT (thereL (pieceD l p.sn).B) (pieceD l p.sn).B.length > endP p
            · (repeat ((first | refine zI (by omega) ?_ | refine zE (by omega) (by omega) ?_ | refine zD (by omega) (by omega) ?_ | refine zY (by omega) ?_ | refine zN (by omega) ?_ | refine amin ?_ | refine amax ?_ | refine zU (by omega) ?_ | refine z8 (by omega) ?_ | refine zX (by omega) (by omega) ?_ | refine zR rfl ?_ | refine acellA ?_ | (apply zL H; (· repeat first | exact .h | apply AtK.t); (· rfl)) | (apply zA H; (· repeat first | exact .h | apply AtK.t)) | (apply zS H; (· repeat first | exact .h | apply AtK.t); (· rfl); (conv => whnf); clear H; intro τ H) | rw [List.length_map]); (refine wX ?_)))
              exact aret (VLe.refl _) (Sub.refl _) (fin (put_3 hr (.inr ⟨hen, c4⟩)) (by decide) H.tail.tail)
            (repeat ((first | refine zI (by omega) ?_ | refine zE (by omega) (by omega) ?_ | refine zD (by omega) (by omega) ?_ | refine zY (by omega) ?_ | refine zN (by omega) ?_ | refine amin ?_ | refine amax ?_ | refine zU (by omega) ?_ | refine z8 (by omega) ?_ | refine zX (by omega) (by omega) ?_ | refine zR rfl ?_ | refine acellA ?_ | (apply zL H; (· repeat first | exact .h | apply AtK.t); (· rfl)) | (apply zA H; (· repeat first | exact .h | apply AtK.t)) | (apply zS H; (· repeat first | exact .h | apply AtK.t); (· rfl); (conv => whnf); clear H; intro τ H) | rw [List.length_map]); (refine wX ?_)))
          have nb : ¬ bad3 l p := by rintro (⟨a, b | ⟨b, c⟩⟩ | ⟨b, c⟩) <;> first | contradiction | omega | (rw [hen] at b; cases b)
          refine acall (ePlaces _ (pieceD l p.sn) τ (by omega)) ?_
          rintro _ τ2 ⟨w, E, rfl, hw, N⟩
          refine ⟨?_, N.ext⟩
          have TT := hw.dvt (F := []) N
          replace H := H.more N.sub
          clear hw N
          (refine wX ?_)
          refine acall (rCount03 TT (p.off, (endP p : Int)) (by rw [thereL_len]; omega) (by dsimp only; omega) (by dsimp only; omega) (by dsimp only; omega)) ?_
          rintro _ σ_ ⟨rfl, e_⟩
          obtain rfl := e_.symm
          refine ⟨?_, Ext.refl _⟩
          (refine wX ?_)
          (repeat ((first | refine zI (by omega) ?_ | refine zE (by omega) (by omega) ?_ | refine zD (by omega) (by omega) ?_ | refine zY (by omega) ?_ | refine zN (by omega) ?_ | refine amin ?_ | refine amax ?_ | refine zU (by omega) ?_ | refine z8 (by omega) ?_ | refine zX (by omega) (by omega) ?_ | refine zR rfl ?_ | refine acellA ?_ | (apply zL H; (· repeat first | exact .h | apply AtK.t); (· rfl)) | (apply zA H; (· repeat first | exact .h | apply AtK.t)) | (apply zS H; (· repeat first | exact .h | apply AtK.t); (· rfl); (conv => whnf); clear H; intro τ H) | rw [List.length_map]); (refine wX ?_)))
          by_cases c5 : ((cntT (thereL (pieceD l p.sn).B) (p.off, (endP p : Int)) : Nat) : Int) = total p.fs
          · (repeat ((first | refine zI (by omega) ?_ | refine zE (by omega) (by omega) ?_ | refine zD (by omega) (by omega) ?_ | refine zY (by omega) ?_ | refine zN (by omega) ?_ | refine amin ?_ | refine amax ?_ | refine zU (by omega) ?_ | refine z8 (by omega) ?_ | refine zX (by omega) (by omega) ?_ | refine zR rfl ?_ | refine acellA ?_ | (apply zL H; (· repeat first | exact .h | apply AtK.t); (· rfl)) | (apply zA H; (· repeat first | exact .h | apply AtK.t)) | (apply zS H; (· repeat first | exact .h | apply AtK.t); (· rfl); (conv => whnf); clear H; intro τ H) | rw [List.length_map]); (refine wX ?_)))
            exact aret (VLe.refl _) (Sub.refl _) (fin (put_12 hr nb c5) (by decide) H.tail.tail)
          (repeat ((first | refine zI (by omega) ?_ | refine zE (by omega) (by omega) ?_ | refine zD (by omega) (by omega) ?_ | refine zY (by omega) ?_ | refine zN (by omega) ?_ | refine amin ?_ | refine amax ?_ | refine zU (by omega) ?_ | refine z8 (by omega) ?_ | refine zX (by omega) (by omega) ?_ | refine zR rfl ?_ | refine acellA ?_ | (apply zL H; (· repeat first | exact .h | apply AtK.t); (· rfl)) | (apply zA H; (· repeat first | exact .h | apply AtK.t)) | (apply zS H; (· repeat first | exact .h | apply AtK.t); (· rfl); (conv => whnf); clear H; intro τ H) | rw [List.length_map]); (refine wX ?_)))
          refine acall (eWith _ (pieceD l p.sn) p _ τ2 (by omega) (by omega) ho hfi hn ht hpos) ?_
          rintro _ τ3 ⟨rfl, N⟩
          refine ⟨?_, N.ext⟩
          replace H := H.more N.sub
          clear N TT
          (refine wX ?_)
          refine hnew H rfl ?_
          clear H
          intro i10 τ H
          (refine wX ?_)
          (repeat ((first | refine zI (by omega) ?_ | refine zE (by omega) (by omega) ?_ | refine zD (by omega) (by omega) ?_ | refine zY (by omega) ?_ | refine zN (by omega) ?_ | refine amin ?_ | refine amax ?_ | refine zU (by omega) ?_ | refine z8 (by omega) ?_ | refine zX (by omega) (by omega) ?_ | refine zR rfl ?_ | refine acellA ?_ | (apply zL H; (· repeat first | exact .h | apply AtK.t); (· rfl)) | (apply zA H; (· repeat first | exact .h | apply AtK.t)) | (apply zS H; (· repeat first | exact .h | apply AtK.t); (· rfl); (conv => whnf); clear H; intro τ H) | rw [List.length_map]); (refine wX ?_)))
          refine acall (ePlaces .none (withD (pieceD l p.sn) p _) τ (by show (withB _ _).length ≤ 100000; omega)) ?_
          rintro _ τ4 ⟨w, E, rfl, hw, N⟩
          refine ⟨?_, N.ext⟩
          have TT := hw.dvt (F := []) N
          replace H := H.more N.sub
          clear hw N
          (refine wX ?_)
          refine acall (rSpans03 TT (by rw [thereL_len]; show (withB _ _).length ≤ 65536; omega)) ?_
          rintro w5 τ5 ⟨E5, hE5, N⟩
          refine ⟨?_, N.ext⟩
          replace H := H.more N.sub
          clear N TT
          rw [thereL_len] at hE5
          replace hE5 : RS2 w5 (runT (thereL (withB (pieceD l p.sn) p)) true (withB (pieceD l p.sn) p).length) E5 := hE5
          by_cases c6 : (runT (thereL (withB (pieceD l p.sn) p)) true (withB (pieceD l p.sn) p).length).length > 2048
          · rcases hE5.len with ⟨t6, rfl, h6⟩ | ⟨r6, rfl⟩
            · omega
            · (refine wX ?_)
              (repeat ((first | refine zI (by omega) ?_ | refine zE (by omega) (by omega) ?_ | refine zD (by omega) (by omega) ?_ | refine zY (by omega) ?_ | refine zN (by omega) ?_ | refine amin ?_ | refine amax ?_ | refine zU (by omega) ?_ | refine z8 (by omega) ?_ | refine zX (by omega) (by omega) ?_ | refine zR rfl ?_ | refine acellA ?_ | (apply zL H; (· repeat first | exact .h | apply AtK.t); (· rfl)) | (apply zA H; (· repeat first | exact .h | apply AtK.t)) | (apply zS H; (· repeat first | exact .h | apply AtK.t); (· rfl); (conv => whnf); clear H; intro τ H) | rw [List.length_map]); (refine wX ?_)))
              exact aret (VLe.refl _) (Sub.refl _) (fin (put_5 hr nb c5 c6) (by decide) H.tail.tail.tail)
          rcases hE5.len with ⟨t6, rfl, h6⟩ | ⟨r6, rfl⟩
          all_goals
            (refine wX ?_)
            try rw [show (([] : List AVal).length : Int) = 0 from rfl]
            (repeat ((first | refine zI (by omega) ?_ | refine zE (by omega) (by omega) ?_ | refine zD (by omega) (by omega) ?_ | refine zY (by omega) ?_ | refine zN (by omega) ?_ | refine amin ?_ | refine amax ?_ | refine zU (by omega) ?_ | refine z8 (by omega) ?_ | refine zX (by omega) (by omega) ?_ | refine zR rfl ?_ | refine acellA ?_ | (apply zL H; (· repeat first | exact .h | apply AtK.t); (· rfl)) | (apply zA H; (· repeat first | exact .h | apply AtK.t)) | (apply zS H; (· repeat first | exact .h | apply AtK.t); (· rfl); (conv => whnf); clear H; intro τ H) | rw [List.length_map]); (refine wX ?_)))
            refine aloop_from ?_ (hK () _ i9 i10 τ5 (put_0 hr nb c5 c6) (by rw [hen]; exact H))
            (repeat' first | with_reducible exact EnvLe.refl _ | (refine EnvLe.node ?_ (by first | exact Or.inl rfl | exact Or.inr (Or.inl rfl) | exact Or.inr (Or.inr ⟨nofun, VLe.slice _ _ _⟩)) ?_))
  intro c9 i9 i10 τ h0 H
  (conv => whnf)
  obtain ⟨A, B, hAB, hA, hB⟩ := split_atD l p.sn
  have hlen : l.length = A.length + B.length := by rw [hAB, List.length_append]
  obtain ⟨y, hy⟩ : ∃ y, y = withD (pieceD l p.sn) p (endsP p) := ⟨_, rfl⟩
  rw [← hy] at H fin ⊢
  refine aloop (α := Nat × Tok × AHeap) (fun z => [(s11, .slice 6 ((l.take z.1).map (dpV .none)) z.2.1), (s12, i64v z.1)]) (fun z => z.2.2) (fun z => z.1 ≤ A.length ∧ Hp σb (.t z.2.1 :: .o i10 (.cells (dpC .none y)) :: .o i9 c9 :: .o i3 (.cells (amV p).cells) :: .o ix (.cells (dbC tk l)) :: F) z.2.2) (fun z => A.length - z.1)
    (0, .full, τ) ⟨Nat.zero_le _, H.cons_full⟩ (Sub.refl _) ?_ ?_
  · (refine wX ?_)
    (repeat' first | with_reducible exact EnvLe.refl _ | (refine EnvLe.node ?_ (by first | exact Or.inl rfl | exact Or.inr (Or.inl rfl) | exact Or.inr (Or.inr ⟨nofun, VLe.slice _ _ _⟩)) ?_))
  clear H τ
  rintro ⟨i, tk2, τ⟩ ⟨hi, H⟩
  dsimp only at hi H ⊢
  (refine wX ?_)
  (repeat ((first | refine zI (by omega) ?_ | refine zE (by omega) (by omega) ?_ | refine zD (by omega) (by omega) ?_ | refine zY (by omega) ?_ | refine zN (by omega) ?_ | refine amin ?_ | refine amax ?_ | refine zU (by omega) ?_ | refine z8 (by omega) ?_ | refine zX (by omega) (by omega) ?_ | refine zR rfl ?_ | refine acellA ?_ | (apply zL H; (· repeat first | exact .h | apply AtK.t); (· rfl)) | (apply zA H; (· repeat first | exact .h | apply AtK.t)) | (apply zS H; (· repeat first | exact .h | apply AtK.t); (· rfl); (conv => whnf); clear H; intro τ H) | rw [List.length_map]); (refine wX ?_)))
  have hAt : ∀ j, (h : j < A.length) → ∃ h2 : j < l.length, l[j].sn < p.sn := fun j h => by
    refine ⟨by omega, ?_⟩
    have e : l[j]? = some A[j] := by rw [hAB, List.getElem?_append_left h, List.getElem?_eq_getElem h]
    rw [List.getElem?_eq_getElem (by omega)] at e
    rw [Option.some.inj e]
    exact hA _ (List.getElem_mem h)
  by_cases h1 : i < A.length
  · obtain ⟨hil, hlt⟩ := hAt i h1
    have et : (l.take (i + 1)).map (dpV .none) = (l.take i).map (dpV .none) ++ [dpV .none l[i]] := by rw [List.take_add_one, List.getElem?_eq_getElem hil, List.map_append]; rfl
    (repeat ((first | refine zI (by omega) ?_ | refine zE (by omega) (by omega) ?_ | refine zD (by omega) (by omega) ?_ | refine zY (by omega) ?_ | refine zN (by omega) ?_ | refine amin ?_ | refine amax ?_ | refine zU (by omega) ?_ | refine z8 (by omega) ?_ | refine zX (by omega) (by omega) ?_ | refine zR rfl ?_ | refine acellA ?_ | (apply zL H; (· repeat first | exact .h | apply AtK.t); (· rfl)) | (apply zA H; (· repeat first | exact .h | apply AtK.t)) | (apply zS H; (· repeat first | exact .h | apply AtK.t); (· rfl); (conv => whnf); clear H; intro τ H) | rw [List.length_map]); (refine wX ?_)))
    refine aget (by omega) (get_dp hil) ?_
    (refine wX ?_)
    (repeat ((first | refine zI (by omega) ?_ | refine zE (by omega) (by omega) ?_ | refine zD (by omega) (by omega) ?_ | refine zY (by omega) ?_ | refine zN (by omega) ?_ | refine amin ?_ | refine amax ?_ | refine zU (by omega) ?_ | refine z8 (by omega) ?_ | refine zX (by omega) (by omega) ?_ | refine zR rfl ?_ | refine acellA ?_ | (apply zL H; (· repeat first | exact .h | apply AtK.t); (· rfl)) | (apply zA H; (· repeat first | exact .h | apply AtK.t)) | (apply zS H; (· repeat first | exact .h | apply AtK.t); (· rfl); (conv => whnf); clear H; intro τ H) | rw [List.length_map]); (refine wX ?_)))
    refine aget (by omega) (get_dp hil) ?_
    (refine wX ?_)
    (repeat ((first | refine zI (by omega) ?_ | refine zE (by omega) (by omega) ?_ | refine zD (by omega) (by omega) ?_ | refine zY (by omega) ?_ | refine zN (by omega) ?_ | refine amin ?_ | refine amax ?_ | refine zU (by omega) ?_ | refine z8 (by omega) ?_ | refine zX (by omega) (by omega) ?_ | refine zR rfl ?_ | refine acellA ?_ | (apply zL H; (· repeat first | exact .h | apply AtK.t); (· rfl)) | (apply zA H; (· repeat first | exact .h | apply AtK.t)) | (apply zS H; (· repeat first | exact .h | apply AtK.t); (· rfl); (conv => whnf); clear H; intro τ H) | rw [List.length_map]); (refine wX ?_)))
    apply zP H
    · (repeat first | exact .h | apply AtK.t)
    · exact (by rw [List.length_map, List.length_take]; simp only [List.length_singleton]; omega)
    intro tk3
    (conv => whnf)
    clear H
    intro τ H
    (refine wX ?_)
    (repeat ((first | refine zI (by omega) ?_ | refine zE (by omega) (by omega) ?_ | refine zD (by omega) (by omega) ?_ | refine zY (by omega) ?_ | refine zN (by omega) ?_ | refine amin ?_ | refine amax ?_ | refine zU (by omega) ?_ | refine z8 (by omega) ?_ | refine zX (by omega) (by omega) ?_ | refine zR rfl ?_ | refine acellA ?_ | (apply zL H; (· repeat first | exact .h | apply AtK.t); (· rfl)) | (apply zA H; (· repeat first | exact .h | apply AtK.t)) | (apply zS H; (· repeat first | exact .h | apply AtK.t); (· rfl); (conv => whnf); clear H; intro τ H) | rw [List.length_map]); (refine wX ?_)))
    refine ⟨(i + 1, tk3, τ), ⟨h1, H⟩, by dsimp only; omega, Sub.refl _, ?_⟩
    rw [et]
    (refine wX ?_)
    (repeat' first | with_reducible exact EnvLe.refl _ | (refine EnvLe.node ?_ (by first | exact Or.inl rfl | exact Or.inr (Or.inl rfl) | exact Or.inr (Or.inr ⟨nofun, VLe.slice _ _ _⟩)) ?_))
  obtain rfl : i = A.length := by omega
  have htk : l.take A.length = A := by rw [hAB, List.take_left]
  rw [htk]
  have hfa : findE l p.sn = -1 ∨ findE l p.sn = A.length := by
    rcases findE_spec l p.sn with ⟨h, _⟩ | ⟨A', d, B', hl', h, h2, h3⟩
    · exact .inl h
    · refine .inr ?_
      rw [h]
      have : A'.length = A.length := by
        rcases Nat.lt_trichotomy A'.length A.length with q | q | q
        · obtain ⟨h4, h5⟩ := hAt _ q
          have e : l[A'.length] = d := by
            have : l[A'.length]? = some d := by rw [hl', List.getElem?_append_right (Nat.le_refl _), Nat.sub_self]; rfl
            rw [List.getElem?_eq_getElem h4] at this
            exact Option.some.inj this
          rw [e, h2] at h5
          omega
        · exact q
        · exfalso
          have h6 : A.length < l.length := by rw [hl', List.length_append]; omega
          cases B with
          | nil => simp at hlen; omega
          | cons b B2 =>
            have e1 : l[A.length] = b := by
              have : l[A.length]? = some b := by rw [hAB, List.getElem?_append_right (Nat.le_refl _), Nat.sub_self]; rfl
              rw [List.getElem?_eq_getElem h6] at this
              exact Option.some.inj this
            have e2 : l[A.length] = A'[A.length] := by
              have : l[A.length]? = some A'[A.length] := by rw [hl', List.getElem?_append_left q, List.getElem?_eq_getElem q]
              rw [List.getElem?_eq_getElem h6] at this
              exact Option.some.inj this
            have h7 := hB b B2 rfl
            have h8 : A'[A.length].sn < d.sn := by
              rw [hl', List.map_append, List.map_cons, List.pairwise_append] at hup
              exact hup.2.2 _ (List.mem_map_of_mem (List.getElem_mem q)) _ (List.mem_cons_self ..)
            rw [← e2, e1] at h8
            omega
      omega
  have hge : ∀ h : A.length < l.length, ¬ l[A.length].sn < p.sn := fun h => by
    cases B with
    | nil => simp at hlen; omega
    | cons b B2 =>
      have e1 : l[A.length] = b := by
        have : l[A.length]? = some b := by rw [hAB, List.getElem?_append_right (Nat.le_refl _), Nat.sub_self]; rfl
        rw [List.getElem?_eq_getElem h] at this
        exact Option.some.inj this
      rw [e1]; exact hB b B2 rfl
  have hsorted : ∀ b B2, B = b :: B2 → ∀ d ∈ B2, b.sn < d.sn := fun b B2 e d hd => by
    rw [hAB, e, List.map_append, List.map_cons, List.pairwise_append, List.pairwise_cons] at hup
    exact hup.2.1.1 _ (List.mem_map_of_mem hd)
  have hcase : (findE l p.sn = -1 ∧ (∀ d ∈ B, p.sn < d.sn) ∧ pieceD l p.sn = freshD p.sn) ∨ (findE l p.sn = A.length ∧ ∃ B', B = pieceD l p.sn :: B' ∧ (pieceD l p.sn).sn = p.sn ∧ ∀ d ∈ B', p.sn < d.sn) := by
    rcases find_at l p.sn with ⟨f1, f2⟩ | ⟨i, hi, f1, f2⟩
    · refine .inl ⟨f1, fun d hd => ?_, by unfold pieceD; rw [f2]⟩
      have hno : ∀ d ∈ l, d.sn ≠ p.sn := fun d hd e => by
        have := List.find?_eq_none.1 f2 d hd
        simp [e] at this
      cases B with
      | nil => simp at hd
      | cons b B2 =>
        have h3 := hB b B2 rfl
        have h4 := hno b (by rw [hAB]; simp)
        rcases List.mem_cons.1 hd with rfl | hd
        · omega
        · have := hsorted b B2 rfl d hd; omega
    · have hia : i = A.length := by omega
      subst hia
      have hx : pieceD l p.sn = l[A.length] := by unfold pieceD; rw [f2]
      have hs : l[A.length].sn = p.sn := by have := List.find?_some f2; simpa using this
      refine .inr ⟨f1, ?_⟩
      cases B with
      | nil => simp at hlen; omega
      | cons b B2 =>
        have e1 : l[A.length] = b := by
          have : l[A.length]? = some b := by rw [hAB, List.getElem?_append_right (Nat.le_refl _), Nat.sub_self]; rfl
          rw [List.getElem?_eq_getElem hi] at this
          exact Option.some.inj this
        refine ⟨B2, by rw [hx, e1], by rw [hx]; exact hs, fun d hd => ?_⟩
        have := hsorted b B2 rfl d hd
        rw [e1] at hs
        omega
  by_cases hil : A.length < l.length
  case' pos =>
    have hg2 := hge hil
    (repeat ((first | refine zI (by omega) ?_ | refine zE (by omega) (by omega) ?_ | refine zD (by omega) (by omega) ?_ | refine zY (by omega) ?_ | refine zN (by omega) ?_ | refine amin ?_ | refine amax ?_ | refine zU (by omega) ?_ | refine z8 (by omega) ?_ | refine zX (by omega) (by omega) ?_ | refine zR rfl ?_ | refine acellA ?_ | (apply zL H; (· repeat first | exact .h | apply AtK.t); (· rfl)) | (apply zA H; (· repeat first | exact .h | apply AtK.t)) | (apply zS H; (· repeat first | exact .h | apply AtK.t); (· rfl); (conv => whnf); clear H; intro τ H) | rw [List.length_map]); (refine wX ?_)))
    refine aget (by omega) (get_dp hil) ?_
    (refine wX ?_)
    (repeat ((first | refine zI (by omega) ?_ | refine zE (by omega) (by omega) ?_ | refine zD (by omega) (by omega) ?_ | refine zY (by omega) ?_ | refine zN (by omega) ?_ | refine amin ?_ | refine amax ?_ | refine zU (by omega) ?_ | refine z8 (by omega) ?_ | refine zX (by omega) (by omega) ?_ | refine zR rfl ?_ | refine acellA ?_ | (apply zL H; (· repeat first | exact .h | apply AtK.t); (· rfl)) | (apply zA H; (· repeat first | exact .h | apply AtK.t)) | (apply zS H; (· repeat first | exact .h | apply AtK.t); (· rfl); (conv => whnf); clear H; intro τ H) | rw [List.length_map]); (refine wX ?_)))
  case' neg =>
    (repeat ((first | refine zI (by omega) ?_ | refine zE (by omega) (by omega) ?_ | refine zD (by omega) (by omega) ?_ | refine zY (by omega) ?_ | refine zN (by omega) ?_ | refine amin ?_ | refine amax ?_ | refine zU (by omega) ?_ | refine z8 (by omega) ?_ | refine zX (by omega) (by omega) ?_ | refine zR rfl ?_ | refine acellA ?_ | (apply zL H; (· repeat first | exact .h | apply AtK.t); (· rfl)) | (apply zA H; (· repeat first | exact .h | apply AtK.t)) | (apply zS H; (· repeat first | exact .h | apply AtK.t); (· rfl); (conv => whnf); clear H; intro τ H) | rw [List.length_map]); (refine wX ?_)))
  all_goals
    apply zP H
    · (repeat first | exact .h | apply AtK.t)
    · exact (by rw [List.length_map]; simp only [List.length_singleton]; omega)
    intro tk3
    (conv => whnf)
    clear H
    intro τ H
    (refine wX ?_)
    (repeat ((first | refine zI (by omega) ?_ | refine zE (by omega) (by omega) ?_ | refine zD (by omega) (by omega) ?_ | refine zY (by omega) ?_ | refine zN (by omega) ?_ | refine amin ?_ | refine amax ?_ | refine zU (by omega) ?_ | refine z8 (by omega) ?_ | refine zX (by omega) (by omega) ?_ | refine zR rfl ?_ | refine acellA ?_ | (apply zL H; (· repeat first | exact .h | apply AtK.t); (· rfl)) | (apply zA H; (· repeat first | exact .h | apply AtK.t)) | (apply zS H; (· repeat first | exact .h | apply AtK.t); (· rfl); (conv => whnf); clear H; intro τ H) | rw [List.length_map]); (refine wX ?_)))
    rcases hcase with ⟨hf, hBs, hfr⟩ | ⟨hf, B', hB', hsn, hBs⟩
    · have hdr : List.drop ((A.length : Nat) : Int).toNat (List.take ((l.length : Nat) : Int).toNat (l.map (dpV .none))) = B.map (dpV .none) := by
        rw [Int.toNat_natCast, Int.toNat_natCast, List.take_of_length_le (by rw [List.length_map]; exact Nat.le_refl _), hAB, List.map_append, List.drop_left' (by rw [List.length_map])]
      (repeat ((first | refine zI (by omega) ?_ | refine zE (by omega) (by omega) ?_ | refine zD (by omega) (by omega) ?_ | refine zY (by omega) ?_ | refine zN (by omega) ?_ | refine amin ?_ | refine amax ?_ | refine zU (by omega) ?_ | refine z8 (by omega) ?_ | refine zX (by omega) (by omega) ?_ | refine zR rfl ?_ | refine acellA ?_ | (apply zL H; (· repeat first | exact .h | apply AtK.t); (· rfl)) | (apply zA H; (· repeat first | exact .h | apply AtK.t)) | (apply zS H; (· repeat first | exact .h | apply AtK.t); (· rfl); (conv => whnf); clear H; intro τ H) | rw [List.length_map]); (refine wX ?_)))
      refine acut (by omega) (by omega) (by omega) ?_
      rw [hdr]
      (refine wX ?_)
      apply zP H
      · (repeat first | exact .h | apply AtK.t)
      · exact (by rw [List.length_append, List.length_map, List.length_map]; simp only [List.length_singleton]; omega)
      intro tk4
      (conv => whnf)
      clear H
      intro τ H
      (refine wX ?_)
      (repeat ((first | refine zI (by omega) ?_ | refine zE (by omega) (by omega) ?_ | refine zD (by omega) (by omega) ?_ | refine zY (by omega) ?_ | refine zN (by omega) ?_ | refine amin ?_ | refine amax ?_ | refine zU (by omega) ?_ | refine z8 (by omega) ?_ | refine zX (by omega) (by omega) ?_ | refine zR rfl ?_ | refine acellA ?_ | (apply zL H; (· repeat first | exact .h | apply AtK.t); (· rfl)) | (apply zA H; (· repeat first | exact .h | apply AtK.t)) | (apply zS H; (· repeat first | exact .h | apply AtK.t); (· rfl); (conv => whnf); clear H; intro τ H) | rw [List.length_map]); (refine wX ?_)))
      exact aret (VLe.refl _) (Sub.refl _) ⟨by rw [h0], tk4, A ++ y :: B, by
        have := H.tail.tail.tail.tail
        unfold dbC
        rw [show (A ++ y :: B).map (dpV .none) = A.map (dpV .none) ++ [dpV .none y] ++ B.map (dpV .none) by rw [List.map_append, List.map_cons, List.append_assoc]; rfl]
        exact this, .inr ⟨h0, A, B, hA, hBs, rfl, .inl ⟨hAB, hfr⟩⟩⟩
    · have hdr : List.drop (((A.length : Nat) : Int) + 1).toNat (List.take ((l.length : Nat) : Int).toNat (l.map (dpV .none))) = B'.map (dpV .none) := by
        rw [Int.toNat_natCast, show (((A.length : Nat) : Int) + 1).toNat = A.length + 1 by omega, List.take_of_length_le (by rw [List.length_map]; exact Nat.le_refl _), hAB, hB', List.map_append, List.map_cons, List.append_cons, List.drop_left' (by simp)]
      have hBl : B.length = B'.length + 1 := by rw [hB']; rfl
      (repeat ((first | refine zI (by omega) ?_ | refine zE (by omega) (by omega) ?_ | refine zD (by omega) (by omega) ?_ | refine zY (by omega) ?_ | refine zN (by omega) ?_ | refine amin ?_ | refine amax ?_ | refine zU (by omega) ?_ | refine z8 (by omega) ?_ | refine zX (by omega) (by omega) ?_ | refine zR rfl ?_ | refine acellA ?_ | (apply zL H; (· repeat first | exact .h | apply AtK.t); (· rfl)) | (apply zA H; (· repeat first | exact .h | apply AtK.t)) | (apply zS H; (· repeat first | exact .h | apply AtK.t); (· rfl); (conv => whnf); clear H; intro τ H) | rw [List.length_map]); (refine wX ?_)))
      refine acut (by omega) (by omega) (by omega) ?_
      rw [hdr]
      (refine wX ?_)
      apply zP H
      · (repeat first | exact .h | apply AtK.t)
      · exact (by rw [List.length_append, List.length_map, List.length_map]; simp only [List.length_singleton]; omega)
      intro tk4
      (conv => whnf)
      clear H
      intro τ H
      (refine wX ?_)
      (repeat ((first | refine zI (by omega) ?_ | refine zE (by omega) (by omega) ?_ | refine zD (by omega) (by omega) ?_ | refine zY (by omega) ?_ | refine zN (by omega) ?_ | refine amin ?_ | refine amax ?_ | refine zU (by omega) ?_ | refine z8 (by omega) ?_ | refine zX (by omega) (by omega) ?_ | refine zR rfl ?_ | refine acellA ?_ | (apply zL H; (· repeat first | exact .h | apply AtK.t); (· rfl)) | (apply zA H; (· repeat first | exact .h | apply AtK.t)) | (apply zS H; (· repeat first | exact .h | apply AtK.t); (· rfl); (conv => whnf); clear H; intro τ H) | rw [List.length_map]); (refine wX ?_)))
      exact aret (VLe.refl _) (Sub.refl _) ⟨by rw [h0], tk4, A ++ y :: B', by
        have := H.tail.tail.tail.tail
        unfold dbC
        rw [show (A ++ y :: B').map (dpV .none) = A.map (dpV .none) ++ [dpV .none y] ++ B'.map (dpV .none) by rw [List.map_append, List.map_cons, List.append_assoc]; rfl]
        exact this, .inr ⟨h0, A, B', hA, hBs, rfl, .inr ⟨hAB.trans (by rw [← hB']), hsn⟩⟩⟩
end
end Go.Proofs.Ytgobbmdbkmjlnaa
/-
  What came in parts, the document's: what is dropped.
-/
namespace Go.Proofs.Ytgobbmdbkmjlnaa
set_option linter.unusedVariables false
set_option linter.unusedSimpArgs false
set_option maxRecDepth 20000
open Go Go.Am

section
variable {σb σ : AHeap} {ix : Nat} {tk : Tok} {l : List DP} {F : List HE}
theorem eDrop (H : Hp σb (.o ix (.cells (dbC tk l)) :: F) σ) (hl : l.length ≤ 10000) (sn : Int) :
    ACalls Try.prog i_bowlineref24_Buffer_Drop [.ptr ix 0, i64v sn] σ fun v σ' => v = i64v (if findE l sn ≥ 0 then 0 else 4) ∧ ∃ tk' l', Hp σb (.o ix (.cells (dbC tk' l')) :: F) σ' ∧
      ((findE l sn = -1 ∧ l' = l) ∨ ∃ A d B, l = A ++ d :: B ∧ d.sn = sn ∧ findE l sn = A.length ∧ l' = A ++ B) := by
  refine k_bowlineref24_Buffer_Drop rfl ?_
  (refine wX ?_)
  refine acall (eFind (H.get (k := 0) rfl) (by omega) sn) ?_
  rintro _ σ_ ⟨rfl, e_⟩
  obtain rfl := e_.symm
  refine ⟨?_, Ext.refl _⟩
  (refine wX ?_)
  rcases findE_spec l sn with ⟨h1, h2⟩ | ⟨A, d, B, hAB, h1, h2, h3⟩
  · rw [h1]
    (refine wX ?_)
    (repeat ((first | refine zI (by omega) ?_ | refine zE (by omega) (by omega) ?_ | refine zD (by omega) (by omega) ?_ | refine zY (by omega) ?_ | refine zN (by omega) ?_ | refine amin ?_ | refine amax ?_ | refine zU (by omega) ?_ | refine z8 (by omega) ?_ | refine zX (by omega) (by omega) ?_ | refine zR rfl ?_ | refine acellA ?_ | (apply zL H; (· repeat first | exact .h | apply AtK.t); (· rfl)) | (apply zA H; (· repeat first | exact .h | apply AtK.t)) | (apply zS H; (· repeat first | exact .h | apply AtK.t); (· rfl); (conv => whnf); clear H; intro τ H) | rw [List.length_map]); (refine wX ?_)))
    exact aret (VLe.refl _) (Sub.refl _) ⟨rfl, tk, l, H, .inl ⟨rfl, rfl⟩⟩
  have hlen : l.length = A.length + (B.length + 1) := by rw [hAB, List.length_append, List.length_cons]
  have e1 : List.drop (0 : Int).toNat (List.take ((A.length : Nat) : Int).toNat (l.map (dpV .none))) = A.map (dpV .none) := by
    rw [Int.toNat_natCast, hAB, List.map_append, List.take_left' (by rw [List.length_map])]; rfl
  have e2 : List.drop (((A.length : Nat) : Int) + 1).toNat (List.take ((l.length : Nat) : Int).toNat (l.map (dpV .none))) = B.map (dpV .none) := by
    rw [Int.toNat_natCast, show (((A.length : Nat) : Int) + 1).toNat = A.length + 1 by omega, List.take_of_length_le (by rw [List.length_map]; exact Nat.le_refl _), hAB, List.map_append, List.map_cons, List.append_cons, List.drop_left' (by simp)]
  rw [h1, if_pos (by omega)]
  (refine wX ?_)
  (repeat ((first | refine zI (by omega) ?_ | refine zE (by omega) (by omega) ?_ | refine zD (by omega) (by omega) ?_ | refine zY (by omega) ?_ | refine zN (by omega) ?_ | refine amin ?_ | refine amax ?_ | refine zU (by omega) ?_ | refine z8 (by omega) ?_ | refine zX (by omega) (by omega) ?_ | refine zR rfl ?_ | refine acellA ?_ | (apply zL H; (· repeat first | exact .h | apply AtK.t); (· rfl)) | (apply zA H; (· repeat first | exact .h | apply AtK.t)) | (apply zS H; (· repeat first | exact .h | apply AtK.t); (· rfl); (conv => whnf); clear H; intro τ H) | rw [List.length_map]); (refine wX ?_)))
  refine acut (by omega) (by omega) (by omega) ?_
  rw [e1]
  (refine wX ?_)
  refine happF H (by rw [List.length_map]; simp only [List.length_nil]; omega) ?_
  clear H
  intro tk3 τ H
  (refine wX ?_)
  (repeat ((first | refine zI (by omega) ?_ | refine zE (by omega) (by omega) ?_ | refine zD (by omega) (by omega) ?_ | refine zY (by omega) ?_ | refine zN (by omega) ?_ | refine amin ?_ | refine amax ?_ | refine zU (by omega) ?_ | refine z8 (by omega) ?_ | refine zX (by omega) (by omega) ?_ | refine zR rfl ?_ | refine acellA ?_ | (apply zL H; (· repeat first | exact .h | apply AtK.t); (· rfl)) | (apply zA H; (· repeat first | exact .h | apply AtK.t)) | (apply zS H; (· repeat first | exact .h | apply AtK.t); (· rfl); (conv => whnf); clear H; intro τ H) | rw [List.length_map]); (refine wX ?_)))
  refine acut (by omega) (by omega) (by omega) ?_
  rw [e2]
  (refine wX ?_)
  apply zP H
  · (repeat first | exact .h | apply AtK.t)
  · exact (by rw [List.length_append, List.length_map, List.length_map]; simp only [List.length_nil]; omega)
  intro tk4
  (conv => whnf)
  clear H
  intro τ H
  (refine wX ?_)
  (repeat ((first | refine zI (by omega) ?_ | refine zE (by omega) (by omega) ?_ | refine zD (by omega) (by omega) ?_ | refine zY (by omega) ?_ | refine zN (by omega) ?_ | refine amin ?_ | refine amax ?_ | refine zU (by omega) ?_ | refine z8 (by omega) ?_ | refine zX (by omega) (by omega) ?_ | refine zR rfl ?_ | refine acellA ?_ | (apply zL H; (· repeat first | exact .h | apply AtK.t); (· rfl)) | (apply zA H; (· repeat first | exact .h | apply AtK.t)) | (apply zS H; (· repeat first | exact .h | apply AtK.t); (· rfl); (conv => whnf); clear H; intro τ H) | rw [List.length_map]); (refine wX ?_)))
  exact aret (VLe.refl _) (Sub.refl _) ⟨rfl, tk4, A ++ B, by
    have := H.tail
    unfold dbC
    rw [show (A ++ B).map (dpV .none) = [] ++ A.map (dpV .none) ++ B.map (dpV .none) by rw [List.map_append, List.nil_append]]
    exact this, .inr ⟨A, d, B, hAB, h2, rfl, rfl⟩⟩
end
end Go.Proofs.Ytgobbmdbkmjlnaa
/-
  What came in parts, the document's: what is taken.
-/
namespace Go.Proofs.Ytgobbmdbkmjlnaa
set_option linter.unusedVariables false
set_option linter.unusedSimpArgs false
set_option maxRecDepth 20000
open Go Go.Am

/-- Slices that hold these bytes, whoever may append to them. -/
inductive SLs : List AVal → List (List UInt8) → Prop
  | nil : SLs [] []
  | cons {t : Tok} {f : List UInt8} {xs : List AVal} {fs : List (List UInt8)} : SLs xs fs → SLs (sl t f :: xs) (f :: fs)
theorem SLs.len {xs : List AVal} {fs : List (List UInt8)} (h : SLs xs fs) : xs.length = fs.length := by
  induction h with
  | nil => rfl
  | cons _ ih => rw [List.length_cons, List.length_cons, ih]
theorem SLs.snoc {xs : List AVal} {fs : List (List UInt8)} (h : SLs xs fs) (t : Tok) (f : List UInt8) : SLs (xs ++ [sl t f]) (fs ++ [f]) := by
  induction h with
  | nil => exact .cons .nil
  | cons _ ih => exact .cons ih
theorem SLs.flat {xs : List AVal} {fs : List (List UInt8)} (h : SLs xs fs) : xs.flatMap AVal.cells = xs := by
  induction h with
  | nil => rfl
  | cons h ih => rw [List.flatMap_cons, ih]; rfl
theorem SLs.one {xs : List AVal} {fs : List (List UInt8)} (h : SLs xs fs) : ∀ x ∈ xs, x.cells.length = 1 := by
  induction h with
  | nil => nofun
  | cons h ih =>
    intro x hx
    rcases List.mem_cons.1 hx with rfl | hx
    · rfl
    · exact ih x hx
theorem SLs.ok {xs : List AVal} {fs : List (List UInt8)} (h : SLs xs fs) : xs.all (okElem 1) = true := by
  induction h with
  | nil => rfl
  | cons h ih => show (_ && List.all _ _) = true; rw [ih]; rfl
theorem sl_none {κ : Ghost} {t : Tok} {f : List UInt8} {u : Value} (h : RepV κ (sl t f) u) : RepV κ (sl .none f) u := by
  unfold sl at *
  generalize f.map byteV = zs at *
  cases h with
  | nil => exact .nil
  | slice h1 h2 h3 h4 h5 h6 => exact .slice h1 h2 h3 h4 h5 trivial
theorem SLs.rep {κ : Ghost} {xs : List AVal} {fs : List (List UInt8)} (h : SLs xs fs) : ∀ {vs : List Value}, RepL κ xs vs → RepL κ (fs.map (sl .none)) vs := by
  induction h with
  | nil => intro vs h; exact h
  | cons h ih => intro vs k; cases k with | cons k1 k2 => exact .cons (sl_none k1) (ih k2)
theorem SLs.lists {κ : Ghost} {xs : List AVal} {fs : List (List UInt8)} (h : SLs xs fs) {u : Value} (k : RepV κ (.slice 1 xs .none) u) : RepV κ (lists .none fs) u := by
  have hl := h.len
  have hf := h.flat
  cases k with
  | nil =>
    cases h with
    | nil => exact .nil
  | slice h1 h2 h3 h4 h5 h6 =>
    rw [hf] at h4
    refine .slice (by rw [List.length_map, ← hl]; exact h1) h2 (fun x hx => by obtain ⟨y, _, rfl⟩ := List.mem_map.1 hx; rfl) ?_ h5 trivial
    rw [show (fs.map (sl .none)).flatMap AVal.cells = fs.map (sl .none) by
      clear h1 h2 h3 h4 h5 h6 hl hf h
      induction fs with
      | nil => rfl
      | cons f fs ih => rw [List.map_cons, List.flatMap_cons, ih]; rfl]
    exact h.rep h4
theorem tup_map1 {κ : Ghost} {a b b' c : AVal} {u : Value} (hz : ∀ q, RepV κ b q → RepV κ b' q) (h : RepV κ (.tup [a, b, c]) u) : RepV κ (.tup [a, b', c]) u := by
  cases h with
  | tup k => cases k with
    | cons k1 k => cases k with
      | cons k2 k => exact .tup (.cons k1 (.cons (hz _ k2) k))
/-- The fields, one behind the other; the last may be gone on with. -/
inductive OutR : AVal → List (List UInt8) → List HE → Prop
  | nil : OutR (.slice 1 [] .full) [] []
  | row (r : Nat) (xs : List AVal) (fs : List (List UInt8)) (tk : Tok) (f : List UInt8) : SLs xs fs → OutR (.ms r 1 0 (fs.length + 1)) (fs ++ [f]) [.t tk, .o r (.cells (xs ++ [sl tk f]))]
theorem OutR.split {v : AVal} {fs : List (List UInt8)} {E : List HE} (h : OutR v fs E) : (v = .slice 1 [] .full ∧ fs = [] ∧ E = []) ∨ ∃ r xs fs' tk f, v = .ms r 1 0 (fs'.length + 1) ∧ fs = fs' ++ [f] ∧ E = [.t tk, .o r (.cells (xs ++ [sl tk f]))] ∧ SLs xs fs' := by
  cases h with
  | nil => exact .inl ⟨rfl, rfl, rfl⟩
  | row r xs fs tk f h => exact .inr ⟨r, xs, fs, tk, f, rfl, rfl, rfl, h⟩
theorem OutR.none_of {v : AVal} {fs : List (List UInt8)} {E : List HE} (h : OutR v fs E) (hn : fs = []) : v = .slice 1 [] .full ∧ E = [] := by
  rcases h.split with ⟨h1, _, h2⟩ | ⟨r, xs, fs', tk, f, _, h2, _⟩
  · exact ⟨h1, h2⟩
  · rw [hn] at h2; simp at h2
theorem OutR.row_of {v : AVal} {fs : List (List UInt8)} {E : List HE} (h : OutR v fs E) (hn : fs ≠ []) : ∃ r xs fs' tk f, v = .ms r 1 0 (fs'.length + 1) ∧ fs = fs' ++ [f] ∧ E = [.t tk, .o r (.cells (xs ++ [sl tk f]))] ∧ SLs xs fs' := by
  rcases h.split with ⟨_, h1, _⟩ | h
  · exact absurd h1 hn
  · exact h
def byD (B : List Int) (k : Nat) : UInt8 := UInt8.ofNat (B[k]?.getD 0).toNat
def addLast (l : List (List UInt8)) (b : UInt8) : List (List UInt8) := l.dropLast ++ [(l.getLast?.getD []) ++ [b]]
theorem addLast_snoc (l : List (List UInt8)) (f : List UInt8) (b : UInt8) : addLast (l ++ [f]) b = l ++ [f ++ [b]] := by
  unfold addLast
  rw [List.dropLast_concat, List.getLast?_concat]; rfl
def tkD (d : DP) : Nat → List (List UInt8)
  | 0 => []
  | k + 1 => if k = 0 ∨ bitT d.G k = true then tkD d k ++ [[byD d.B k]] else addLast (tkD d k) (byD d.B k)
theorem tkD_ne (d : DP) : ∀ k, tkD d (k + 1) ≠ [] := fun k h => by
  unfold tkD at h
  split at h
  · simp at h
  · unfold addLast at h; simp at h
theorem tkD_len (d : DP) : ∀ k, (tkD d k).length ≤ k
  | 0 => Nat.le_refl _
  | k + 1 => by
    have := tkD_len d k
    unfold tkD
    split
    · rw [List.length_append, List.length_singleton]; omega
    · unfold addLast
      rw [List.length_append, List.length_dropLast, List.length_singleton]; omega
theorem tkD_sum (d : DP) : ∀ k, ∀ f ∈ tkD d k, f.length ≤ k
  | 0, f, h => by simp [tkD] at h
  | k + 1, f, h => by
    unfold tkD at h
    split at h
    · rcases List.mem_append.1 h with h | h
      · have := tkD_sum d k f h; omega
      · rw [List.mem_singleton.1 h]; simp
    · unfold addLast at h
      rcases List.mem_append.1 h with h | h
      · have := tkD_sum d k f (List.dropLast_subset _ h); omega
      · rw [List.mem_singleton.1 h, List.length_append, List.length_singleton]
        cases hq : (tkD d k).getLast? with
        | none => simp
        | some g =>
          have := tkD_sum d k g (List.mem_of_getLast? hq)
          simpa using this
def fiD (d : DP) : Int := (if d.wi = true then 2 else 0) + (if d.cu = true then 1 else 0)
theorem cnt_all {L : List Bool} {n : Nat} (h : cntT L (0, (n : Int)) = n) : ∀ i, i < n → bitT L i = true := by
  unfold cntT at h
  dsimp only at h
  rw [Int.toNat_natCast] at h
  have h2 : (List.range n).countP (cntG L 0) = (List.range n).length := by rw [h, List.length_range]
  intro i hi
  have := List.countP_eq_length.1 h2 i (List.mem_range.2 hi)
  unfold cntG at this
  rw [Bool.and_eq_true] at this
  exact this.2
theorem by_val {B : List Int} {i : Nat} (h : i < B.length) (h0 : 0 ≤ B[i]) (h1 : B[i] < 256) : AVal.v (.int .u8 B[i]) = byteV (byD B i) := by
  unfold byD byteV
  rw [List.getElem?_eq_getElem h]
  have : ((UInt8.ofNat (B[i]).toNat).toNat : Int) = B[i] := by
    rw [UInt8.toNat_ofNat']
    omega
  show AVal.v (.int .u8 B[i]) = .v (.int .u8 (((UInt8.ofNat ((some B[i]).getD 0).toNat).toNat : Nat) : Int))
  rw [show (some B[i]).getD 0 = B[i] from rfl, this]
section
variable {σb σ : AHeap} {ix : Nat} {tk : Tok} {l : List DP} {F : List HE}
theorem eTakeNone (H : Hp σb (.o ix (.cells (dbC tk l)) :: F) σ) (hl : l.length ≤ 10000) (sn : Int) (h : findE l sn = -1) :
    ACalls Try.prog i_bowlineref24_Buffer_Take [.ptr ix 0, i64v sn] σ fun v σ' => v = .tup [i64v 0, lists .none [], i64v 4] ∧ σ' = σ := by
  refine km_bowlineref24_Buffer_Take rfl ?_
  (refine wX ?_)
  refine acall (eFind (H.get (k := 0) rfl) (by omega) sn) ?_
  rintro _ σ_ ⟨rfl, e_⟩
  obtain rfl := e_.symm
  refine ⟨?_, Ext.refl _⟩
  (refine wX ?_)
  rw [h]
  (refine wX ?_)
  (repeat ((first | refine zI (by omega) ?_ | refine zE (by omega) (by omega) ?_ | refine zD (by omega) (by omega) ?_ | refine zY (by omega) ?_ | refine zN (by omega) ?_ | refine amin ?_ | refine amax ?_ | refine zU (by omega) ?_ | refine z8 (by omega) ?_ | refine zX (by omega) (by omega) ?_ | refine zR rfl ?_ | refine acellA ?_ | (apply zL H; (· repeat first | exact .h | apply AtK.t); (· rfl)) | (apply zA H; (· repeat first | exact .h | apply AtK.t)) | (apply zS H; (· repeat first | exact .h | apply AtK.t); (· rfl); (conv => whnf); clear H; intro τ H) | rw [List.length_map]); (refine wX ?_)))
  exact aret (VLe.tup (VLe.cons (VLe.refl _) (VLe.cons (VLe.slice _ _ _) fun _ _ h => h))) (Sub.refl _) ⟨rfl, rfl⟩
theorem eTakeShort (H : Hp σb (.o ix (.cells (dbC tk l)) :: F) σ) (hl : l.length ≤ 10000) (sn : Int) {i : Nat} (hi : i < l.length) (h : findE l sn = i) (hok : l[i].Ok) (hw : wholeD l[i] = false) :
    ACalls Try.prog i_bowlineref24_Buffer_Take [.ptr ix 0, i64v sn] σ fun v σ' => v = .tup [i64v 0, lists .none [], i64v 8] ∧ σ' = σ := by
  have hget := get_dp (t := .none) hi
  generalize l[i] = d at *
  have hbl := hok.bl
  have hxe := hok.e
  refine km_bowlineref24_Buffer_Take rfl ?_
  have b1 := H.get (k := 0) rfl
  clear H
  have H := Hp.nil σ
  (refine wX ?_)
  refine acall (eFind b1 (by omega) sn) ?_
  rintro _ σ_ ⟨rfl, e_⟩
  obtain rfl := e_.symm
  refine ⟨?_, Ext.refl _⟩
  (refine wX ?_)
  rw [h]
  (refine wX ?_)
  (repeat ((first | refine zI (by omega) ?_ | refine zE (by omega) (by omega) ?_ | refine zD (by omega) (by omega) ?_ | refine zY (by omega) ?_ | refine zN (by omega) ?_ | refine amin ?_ | refine amax ?_ | refine zU (by omega) ?_ | refine z8 (by omega) ?_ | refine zX (by omega) (by omega) ?_ | refine zR rfl ?_ | refine acellA ?_ | refine zB H b1 rfl ?_ | refine zC H b1 ?_ | (apply zL H; (· repeat first | exact .h | apply AtK.t); (· rfl)) | (apply zA H; (· repeat first | exact .h | apply AtK.t)) | (apply zS H; (· repeat first | exact .h | apply AtK.t); (· rfl); (conv => whnf); clear H; intro τ H) | rw [List.length_map]); (refine wX ?_)))
  refine aget (by omega) hget ?_
  (refine wX ?_)
  (repeat ((first | refine zI (by omega) ?_ | refine zE (by omega) (by omega) ?_ | refine zD (by omega) (by omega) ?_ | refine zY (by omega) ?_ | refine zN (by omega) ?_ | refine amin ?_ | refine amax ?_ | refine zU (by omega) ?_ | refine z8 (by omega) ?_ | refine zX (by omega) (by omega) ?_ | refine zR rfl ?_ | refine acellA ?_ | refine zB H b1 rfl ?_ | refine zC H b1 ?_ | (apply zL H; (· repeat first | exact .h | apply AtK.t); (· rfl)) | (apply zA H; (· repeat first | exact .h | apply AtK.t)) | (apply zS H; (· repeat first | exact .h | apply AtK.t); (· rfl); (conv => whnf); clear H; intro τ H) | rw [List.length_map]); (refine wX ?_)))
  refine hnew H rfl ?_
  clear H
  intro i8 τ H
  (refine wX ?_)
  (repeat ((first | refine zI (by omega) ?_ | refine zE (by omega) (by omega) ?_ | refine zD (by omega) (by omega) ?_ | refine zY (by omega) ?_ | refine zN (by omega) ?_ | refine amin ?_ | refine amax ?_ | refine zU (by omega) ?_ | refine z8 (by omega) ?_ | refine zX (by omega) (by omega) ?_ | refine zR rfl ?_ | refine acellA ?_ | refine zB H b1 rfl ?_ | refine zC H b1 ?_ | (apply zL H; (· repeat first | exact .h | apply AtK.t); (· rfl)) | (apply zA H; (· repeat first | exact .h | apply AtK.t)) | (apply zS H; (· repeat first | exact .h | apply AtK.t); (· rfl); (conv => whnf); clear H; intro τ H) | rw [List.length_map]); (refine wX ?_)))
  refine acall (eWholeD .none d τ (by omega) (by omega)) ?_
  rintro _ σ_ ⟨rfl, e_⟩
  obtain rfl := e_.symm
  refine ⟨?_, Ext.refl _⟩
  (refine wX ?_)
  rw [hw]
  (refine wX ?_)
  (repeat ((first | refine zI (by omega) ?_ | refine zE (by omega) (by omega) ?_ | refine zD (by omega) (by omega) ?_ | refine zY (by omega) ?_ | refine zN (by omega) ?_ | refine amin ?_ | refine amax ?_ | refine zU (by omega) ?_ | refine z8 (by omega) ?_ | refine zX (by omega) (by omega) ?_ | refine zR rfl ?_ | refine acellA ?_ | refine zB H b1 rfl ?_ | refine zC H b1 ?_ | (apply zL H; (· repeat first | exact .h | apply AtK.t); (· rfl)) | (apply zA H; (· repeat first | exact .h | apply AtK.t)) | (apply zS H; (· repeat first | exact .h | apply AtK.t); (· rfl); (conv => whnf); clear H; intro τ H) | rw [List.length_map]); (refine wX ?_)))
  exact aret (VLe.tup (VLe.cons (VLe.refl _) (VLe.cons (VLe.slice _ _ _) fun _ _ h => h))) H.sub ⟨rfl, rfl⟩
set_option maxHeartbeats 16000000 in
theorem eTakeM (H : Hp σb (.o ix (.cells (dbC tk l)) :: F) σ) (hl : l.length ≤ 10000) (sn : Int) {i0 : Nat} (hi0 : i0 < l.length) (h : findE l sn = i0) (hok : l[i0].Ok) (hw : wholeD l[i0] = true) (h1e : 1 ≤ l[i0].e) :
    ACalls Try.prog i_bowlineref24_Buffer_Take [.ptr ix 0, i64v sn] σ fun v σ' => ∃ r xs n, v = .tup [i64v (fiD l[i0]), .ms r 1 0 n, i64v 0] ∧ SLs xs (tkD l[i0] l[i0].e.toNat) ∧ n = xs.length ∧ ∃ tk' l', Hp σb (.o r (.cells xs) :: .o ix (.cells (dbC tk' l')) :: F) σ' ∧
      ∃ A d B, l = A ++ d :: B ∧ d.sn = sn ∧ findE l sn = A.length ∧ l' = A ++ B := by
  have hget := get_dp (t := .none) hi0
  generalize l[i0] = d at *
  have hbl := hok.bl
  have hxe := hok.e
  refine km_bowlineref24_Buffer_Take rfl ?_
  have b1 := H.get (k := 0) rfl
  (refine wX ?_)
  refine acall (eFind b1 (by omega) sn) ?_
  rintro _ σ_ ⟨rfl, e_⟩
  obtain rfl := e_.symm
  refine ⟨?_, Ext.refl _⟩
  (refine wX ?_)
  rw [h]
  clear b1
  (refine wX ?_)
  (repeat ((first | refine zI (by omega) ?_ | refine zE (by omega) (by omega) ?_ | refine zD (by omega) (by omega) ?_ | refine zY (by omega) ?_ | refine zN (by omega) ?_ | refine amin ?_ | refine amax ?_ | refine zU (by omega) ?_ | refine z8 (by omega) ?_ | refine zX (by omega) (by omega) ?_ | refine zR rfl ?_ | refine acellA ?_ | refine zB H b1 rfl ?_ | refine zC H b1 ?_ | (apply zL H; (· repeat first | exact .h | apply AtK.t); (· rfl)) | (apply zA H; (· repeat first | exact .h | apply AtK.t)) | (apply zS H; (· repeat first | exact .h | apply AtK.t); (· rfl); (conv => whnf); clear H; intro τ H) | rw [List.length_map]); (refine wX ?_)))
  refine aget (by omega) hget ?_
  (refine wX ?_)
  (repeat ((first | refine zI (by omega) ?_ | refine zE (by omega) (by omega) ?_ | refine zD (by omega) (by omega) ?_ | refine zY (by omega) ?_ | refine zN (by omega) ?_ | refine amin ?_ | refine amax ?_ | refine zU (by omega) ?_ | refine z8 (by omega) ?_ | refine zX (by omega) (by omega) ?_ | refine zR rfl ?_ | refine acellA ?_ | refine zB H b1 rfl ?_ | refine zC H b1 ?_ | (apply zL H; (· repeat first | exact .h | apply AtK.t); (· rfl)) | (apply zA H; (· repeat first | exact .h | apply AtK.t)) | (apply zS H; (· repeat first | exact .h | apply AtK.t); (· rfl); (conv => whnf); clear H; intro τ H) | rw [List.length_map]); (refine wX ?_)))
  refine hnew H rfl ?_
  clear H
  intro i8 τ H
  (refine wX ?_)
  (repeat ((first | refine zI (by omega) ?_ | refine zE (by omega) (by omega) ?_ | refine zD (by omega) (by omega) ?_ | refine zY (by omega) ?_ | refine zN (by omega) ?_ | refine amin ?_ | refine amax ?_ | refine zU (by omega) ?_ | refine z8 (by omega) ?_ | refine zX (by omega) (by omega) ?_ | refine zR rfl ?_ | refine acellA ?_ | refine zB H b1 rfl ?_ | refine zC H b1 ?_ | (apply zL H; (· repeat first | exact .h | apply AtK.t); (· rfl)) | (apply zA H; (· repeat first | exact .h | apply AtK.t)) | (apply zS H; (· repeat first | exact .h | apply AtK.t); (· rfl); (conv => whnf); clear H; intro τ H) | rw [List.length_map]); (refine wX ?_)))
  refine acall (eWholeD .none d τ (by omega) (by omega)) ?_
  rintro _ σ_ ⟨rfl, e_⟩
  obtain rfl := e_.symm
  refine ⟨?_, Ext.refl _⟩
  (refine wX ?_)
  rw [hw]
  obtain ⟨e, he⟩ : ∃ e : Nat, d.e = e := ⟨d.e.toNat, by omega⟩
  have hall : ∀ j, j < e → ∃ hj : j < d.B.length, 0 ≤ d.B[j] ∧ d.B[j] < 256 := fun j hj => by
    unfold wholeD at hw
    rw [Bool.and_eq_true] at hw
    have h3 := of_decide_eq_true hw.2
    rw [he] at h3
    have h4 := cnt_all (L := thereL d.B) (n := e) (by omega) j hj
    have h5 : j < d.B.length := by omega
    rw [thereL_bit h5] at h4
    exact ⟨h5, of_decide_eq_true h4, (hok.bv _ (List.getElem_mem h5)).2⟩
  replace H : Hp σb (.o i8 (.cells (dpC .none d)) :: .o ix (.cells (dbC tk l)) :: ([] ++ F)) τ := H
  (refine wX ?_)
  (repeat ((first | refine zI (by omega) ?_ | refine zE (by omega) (by omega) ?_ | refine zD (by omega) (by omega) ?_ | refine zY (by omega) ?_ | refine zN (by omega) ?_ | refine amin ?_ | refine amax ?_ | refine zU (by omega) ?_ | refine z8 (by omega) ?_ | refine zX (by omega) (by omega) ?_ | refine zR rfl ?_ | refine acellA ?_ | refine zB H b1 rfl ?_ | refine zC H b1 ?_ | (apply zL H; (· repeat first | exact .h | apply AtK.t); (· rfl)) | (apply zA H; (· repeat first | exact .h | apply AtK.t)) | (apply zS H; (· repeat first | exact .h | apply AtK.t); (· rfl); (conv => whnf); clear H; intro τ H) | rw [List.length_map]); (refine wX ?_)))
  refine aloop (α := Nat × AVal × List HE × AHeap) (fun y => [(s9, y.2.1), (s10, i64v y.1)]) (fun y => y.2.2.2) (fun y => y.1 ≤ e ∧ OutR y.2.1 (tkD d y.1) y.2.2.1 ∧ Hp σb (.o i8 (.cells (dpC .none d)) :: .o ix (.cells (dbC tk l)) :: (y.2.2.1 ++ F)) y.2.2.2) (fun y => e - y.1)
    (0, .slice 1 [] .full, [], τ) ⟨Nat.zero_le _, .nil, H⟩ (Sub.refl _) ?_ ?_
  · (refine wX ?_)
    (repeat' first | with_reducible exact EnvLe.refl _ | (refine EnvLe.node ?_ (by first | exact Or.inl rfl | exact Or.inr (Or.inl rfl) | exact Or.inr (Or.inr ⟨nofun, VLe.slice _ _ _⟩)) ?_))
  clear H
  rintro ⟨i, v, E, τ⟩ ⟨hi, hv, H⟩
  dsimp only at hi hv H ⊢
  (refine wX ?_)
  (repeat ((first | refine zI (by omega) ?_ | refine zE (by omega) (by omega) ?_ | refine zD (by omega) (by omega) ?_ | refine zY (by omega) ?_ | refine zN (by omega) ?_ | refine amin ?_ | refine amax ?_ | refine zU (by omega) ?_ | refine z8 (by omega) ?_ | refine zX (by omega) (by omega) ?_ | refine zR rfl ?_ | refine acellA ?_ | refine zB H b1 rfl ?_ | refine zC H b1 ?_ | (apply zL H; (· repeat first | exact .h | apply AtK.t); (· rfl)) | (apply zA H; (· repeat first | exact .h | apply AtK.t)) | (apply zS H; (· repeat first | exact .h | apply AtK.t); (· rfl); (conv => whnf); clear H; intro τ H) | rw [List.length_map]); (refine wX ?_)))
  by_cases hie : i < e
  case pos =>
    obtain ⟨hiB, hv0, hv1⟩ := hall i hie
    have hby := by_val hiB hv0 hv1
    have hiG : i < d.G.length := by omega
    have hln := tkD_len d i
    have hsm := tkD_sum d i
    (repeat ((first | refine zI (by omega) ?_ | refine zE (by omega) (by omega) ?_ | refine zD (by omega) (by omega) ?_ | refine zY (by omega) ?_ | refine zN (by omega) ?_ | refine amin ?_ | refine amax ?_ | refine zU (by omega) ?_ | refine z8 (by omega) ?_ | refine zX (by omega) (by omega) ?_ | refine zR rfl ?_ | refine acellA ?_ | refine zB H b1 rfl ?_ | refine zC H b1 ?_ | (apply zL H; (· repeat first | exact .h | apply AtK.t); (· rfl)) | (apply zA H; (· repeat first | exact .h | apply AtK.t)) | (apply zS H; (· repeat first | exact .h | apply AtK.t); (· rfl); (conv => whnf); clear H; intro τ H) | rw [List.length_map]); (refine wX ?_)))
    obtain ⟨fs0, hfs0⟩ : ∃ fs0, fs0 = tkD d i := ⟨_, rfl⟩
    rw [← hfs0] at hv hln hsm
    have hnew : (i = 0 ∨ bitT d.G i = true) ∨ ¬ (i = 0 ∨ bitT d.G i = true) := Classical.em _
    rcases hnew with hnew | hnew
    case inl =>
      have hstep : tkD d (i + 1) = fs0 ++ [[byD d.B i]] := by rw [tkD, if_pos hnew, ← hfs0]
      by_cases h0 : i = 0
      case' pos =>
        have hn0 : fs0 = [] := by rw [hfs0, h0]; rfl
        (repeat ((first | refine zI (by omega) ?_ | refine zE (by omega) (by omega) ?_ | refine zD (by omega) (by omega) ?_ | refine zY (by omega) ?_ | refine zN (by omega) ?_ | refine amin ?_ | refine amax ?_ | refine zU (by omega) ?_ | refine z8 (by omega) ?_ | refine zX (by omega) (by omega) ?_ | refine zR rfl ?_ | refine acellA ?_ | refine zB H b1 rfl ?_ | refine zC H b1 ?_ | (apply zL H; (· repeat first | exact .h | apply AtK.t); (· rfl)) | (apply zA H; (· repeat first | exact .h | apply AtK.t)) | (apply zS H; (· repeat first | exact .h | apply AtK.t); (· rfl); (conv => whnf); clear H; intro τ H) | rw [List.length_map]); (refine wX ?_)))
        obtain ⟨rfl, rfl⟩ := hv.none_of hn0
        refine rr_appN (b := 24) (ys := [.slice 1 [] .full]) H ⟨rfl, rfl⟩ (by simp) ?_
        clear H
        intro v2 E2 τ hv2 H
        obtain ⟨r, rfl, rfl⟩ := hv2.row_of (by simp)
        obtain ⟨xs2, hx2⟩ : ∃ xs2 : List AVal, xs2 = [] := ⟨_, rfl⟩
        have hs2 : SLs xs2 fs0 := by rw [hx2, hn0]; exact .nil
        have hx3 : [AVal.slice 1 [] .full] = xs2 ++ [sl .full []] := by rw [hx2]; rfl
        rw [hx3] at H ⊢
        obtain ⟨F2, hF2⟩ : ∃ F2 : List HE, F2 = [] ++ F := ⟨_, rfl⟩
        rw [← hF2] at H
        have hF : ∀ {L : List HE} {τ : AHeap}, Hp σb (L ++ F2) τ → Hp σb (L ++ F) τ := fun H => by rw [hF2] at H; exact H
        obtain ⟨fs1, hfs1⟩ : ∃ fs1 : List (List UInt8), fs1 = fs0 := ⟨_, rfl⟩
        rw [← hfs1] at hs2 hstep hln
        clear hx2 hx3 hfs1 hF2 hv2
      case' neg =>
        have hb : bitT d.G i = true := hnew.resolve_left h0
        (repeat ((first | refine zI (by omega) ?_ | refine zE (by omega) (by omega) ?_ | refine zD (by omega) (by omega) ?_ | refine zY (by omega) ?_ | refine zN (by omega) ?_ | refine amin ?_ | refine amax ?_ | refine zU (by omega) ?_ | refine z8 (by omega) ?_ | refine zX (by omega) (by omega) ?_ | refine zR rfl ?_ | refine acellA ?_ | refine zB H b1 rfl ?_ | refine zC H b1 ?_ | (apply zL H; (· repeat first | exact .h | apply AtK.t); (· rfl)) | (apply zA H; (· repeat first | exact .h | apply AtK.t)) | (apply zS H; (· repeat first | exact .h | apply AtK.t); (· rfl); (conv => whnf); clear H; intro τ H) | rw [List.length_map]); (refine wX ?_)))
        refine aget (by omega) (get_boolsD hiG) ?_
        (refine wX ?_)
        refine acell rfl ?_
        rw [hb]
        (refine wX ?_)
        (repeat ((first | refine zI (by omega) ?_ | refine zE (by omega) (by omega) ?_ | refine zD (by omega) (by omega) ?_ | refine zY (by omega) ?_ | refine zN (by omega) ?_ | refine amin ?_ | refine amax ?_ | refine zU (by omega) ?_ | refine z8 (by omega) ?_ | refine zX (by omega) (by omega) ?_ | refine zR rfl ?_ | refine acellA ?_ | refine zB H b1 rfl ?_ | refine zC H b1 ?_ | (apply zL H; (· repeat first | exact .h | apply AtK.t); (· rfl)) | (apply zA H; (· repeat first | exact .h | apply AtK.t)) | (apply zS H; (· repeat first | exact .h | apply AtK.t); (· rfl); (conv => whnf); clear H; intro τ H) | rw [List.length_map]); (refine wX ?_)))
        have hn0 : fs0 ≠ [] := by
          rw [hfs0]
          cases i with
          | zero => exact absurd rfl h0
          | succ i => exact tkD_ne d i
        obtain ⟨r0, xs, fs, tk1, f, rfl, rfl, rfl, hs⟩ := hv.row_of hn0
        (refine wX ?_)
        have hsl := hs.len
        rw [List.length_append, List.length_singleton] at hln
        refine rr_appM (b := 24) (ys := [.slice 1 [] .full]) (xs := xs ++ [sl tk1 f]) (H.front (k := 3) rfl) (by simp) (by rw [List.length_append, List.length_singleton]; omega) ⟨rfl, rfl⟩ (by rw [List.length_append, List.length_singleton, List.length_singleton]; omega) ?_
        clear H
        intro v2 E2 τ hv2 H
        obtain ⟨r, rfl, rfl⟩ := hv2.row_of (by simp)
        obtain ⟨xs2, hx2⟩ : ∃ xs2 : List AVal, xs2 = xs ++ [sl tk1 f] := ⟨_, rfl⟩
        have hs2 : SLs xs2 (fs ++ [f]) := by rw [hx2]; exact hs.snoc _ _
        rw [← hx2] at H ⊢
        obtain ⟨F2, hF2⟩ : ∃ F2 : List HE, F2 = .t tk1 :: F := ⟨_, rfl⟩
        replace H : Hp σb (.o r (.cells (xs2 ++ [sl .full []])) :: .o i8 (.cells (dpC .none d)) :: .o ix (.cells (dbC tk l)) :: F2) τ := by rw [hF2]; exact H
        have hF : ∀ {L : List HE} {τ : AHeap}, Hp σb (L ++ F2) τ → Hp σb (L ++ F) τ := fun H => by rw [hF2] at H; exact Hp.dropmid (B := [.t tk1]) H
        obtain ⟨fs1, hfs1⟩ : ∃ fs1 : List (List UInt8), fs1 = fs ++ [f] := ⟨_, rfl⟩
        rw [← hfs1] at hs2 hstep
        replace hln : fs1.length ≤ i := by rw [hfs1, List.length_append, List.length_singleton]; omega
        clear hx2 hfs1 hF2 hv2
      all_goals
        have hsl2 := hs2.len
        replace H : Hp σb (.o r (.cells (xs2 ++ [sl .full []])) :: .o i8 (.cells (dpC .none d)) :: .o ix (.cells (dbC tk l)) :: F2) τ := H
        (refine wX ?_)
        rw [show ∀ z : AVal, (xs2 ++ [z]).length = xs2.length + 1 from fun z => by simp]
        (repeat ((first | refine zI (by omega) ?_ | refine zE (by omega) (by omega) ?_ | refine zD (by omega) (by omega) ?_ | refine zY (by omega) ?_ | refine zN (by omega) ?_ | refine amin ?_ | refine amax ?_ | refine zU (by omega) ?_ | refine z8 (by omega) ?_ | refine zX (by omega) (by omega) ?_ | refine zR rfl ?_ | refine acellA ?_ | refine zB H b1 rfl ?_ | refine zC H b1 ?_ | (apply zL H; (· repeat first | exact .h | apply AtK.t); (· rfl)) | (apply zA H; (· repeat first | exact .h | apply AtK.t)) | (apply zS H; (· repeat first | exact .h | apply AtK.t); (· rfl); (conv => whnf); clear H; intro τ H) | rw [List.length_map]); (refine wX ?_)))
        refine hload H (k := 0) rfl (x := sl .full []) (by rw [show 0 + (((xs2.length + 1 : Nat) : Int) - 1).toNat * 1 = xs2.length by omega, List.getElem?_append_right (Nat.le_refl _), Nat.sub_self]; rfl) ?_
        (refine wX ?_)
        (repeat ((first | refine zI (by omega) ?_ | refine zE (by omega) (by omega) ?_ | refine zD (by omega) (by omega) ?_ | refine zY (by omega) ?_ | refine zN (by omega) ?_ | refine amin ?_ | refine amax ?_ | refine zU (by omega) ?_ | refine z8 (by omega) ?_ | refine zX (by omega) (by omega) ?_ | refine zR rfl ?_ | refine acellA ?_ | refine zB H b1 rfl ?_ | refine zC H b1 ?_ | (apply zL H; (· repeat first | exact .h | apply AtK.t); (· rfl)) | (apply zA H; (· repeat first | exact .h | apply AtK.t)) | (apply zS H; (· repeat first | exact .h | apply AtK.t); (· rfl); (conv => whnf); clear H; intro τ H) | rw [List.length_map]); (refine wX ?_)))
        refine aget (by omega) (get_intsD hiB) ?_
        (refine wX ?_)
        refine acell rfl ?_
        (refine wX ?_)
        (repeat ((first | refine zI (by omega) ?_ | refine zE (by omega) (by omega) ?_ | refine zD (by omega) (by omega) ?_ | refine zY (by omega) ?_ | refine zN (by omega) ?_ | refine amin ?_ | refine amax ?_ | refine zU (by omega) ?_ | refine z8 (by omega) ?_ | refine zX (by omega) (by omega) ?_ | refine zR rfl ?_ | refine acellA ?_ | refine zB H b1 rfl ?_ | refine zC H b1 ?_ | (apply zL H; (· repeat first | exact .h | apply AtK.t); (· rfl)) | (apply zA H; (· repeat first | exact .h | apply AtK.t)) | (apply zS H; (· repeat first | exact .h | apply AtK.t); (· rfl); (conv => whnf); clear H; intro τ H) | rw [List.length_map]); (refine wX ?_)))
        refine happF H (by simp) ?_
        clear H
        intro tk2 τ H
        (refine wX ?_)
        (repeat ((first | refine zI (by omega) ?_ | refine zE (by omega) (by omega) ?_ | refine zD (by omega) (by omega) ?_ | refine zY (by omega) ?_ | refine zN (by omega) ?_ | refine amin ?_ | refine amax ?_ | refine zU (by omega) ?_ | refine z8 (by omega) ?_ | refine zX (by omega) (by omega) ?_ | refine zR rfl ?_ | refine acellA ?_ | refine zB H b1 rfl ?_ | refine zC H b1 ?_ | (apply zL H; (· repeat first | exact .h | apply AtK.t); (· rfl)) | (apply zA H; (· repeat first | exact .h | apply AtK.t)) | (apply zS H; (· repeat first | exact .h | apply AtK.t); (· rfl); (conv => whnf); clear H; intro τ H) | rw [List.length_map]); (refine wX ?_)))
        refine row_put H (k := 1) (q := xs2.length) (.t .h) (by omega) (by simp) rfl ?_
        (conv => whnf)
        clear H
        intro τ H
        rw [hby, show ∀ y, (xs2 ++ [sl .full []]).set xs2.length y = xs2 ++ [y] from fun y => by rw [List.set_append_right _ _ (Nat.le_refl _), Nat.sub_self]; rfl] at H
        replace H := hF (L := .o i8 (.cells (dpC .none d)) :: .o ix (.cells (dbC tk l)) :: [.t tk2, .o r (.cells (xs2 ++ [sl tk2 [byD d.B i]]))]) (Hp.mid (A := [.t tk2, .o r (.cells (xs2 ++ [sl tk2 [byD d.B i]]))]) (B := [.o i8 (.cells (dpC .none d)), .o ix (.cells (dbC tk l))]) (C := F2) H)
        (refine wX ?_)
        (repeat ((first | refine zI (by omega) ?_ | refine zE (by omega) (by omega) ?_ | refine zD (by omega) (by omega) ?_ | refine zY (by omega) ?_ | refine zN (by omega) ?_ | refine amin ?_ | refine amax ?_ | refine zU (by omega) ?_ | refine z8 (by omega) ?_ | refine zX (by omega) (by omega) ?_ | refine zR rfl ?_ | refine acellA ?_ | refine zB H b1 rfl ?_ | refine zC H b1 ?_ | (apply zL H; (· repeat first | exact .h | apply AtK.t); (· rfl)) | (apply zA H; (· repeat first | exact .h | apply AtK.t)) | (apply zS H; (· repeat first | exact .h | apply AtK.t); (· rfl); (conv => whnf); clear H; intro τ H) | rw [List.length_map]); (refine wX ?_)))
        refine ⟨(i + 1, .ms r 1 0 (xs2.length + 1), [.t tk2, .o r (.cells (xs2 ++ [sl tk2 [byD d.B i]]))], τ), ⟨hie, by rw [hstep, hsl2]; exact .row r xs2 fs1 tk2 _ hs2, H⟩, by dsimp only; omega, Sub.refl _, ?_⟩
        (refine wX ?_)
        (repeat' first | with_reducible exact EnvLe.refl _ | (refine EnvLe.node ?_ (by first | exact Or.inl rfl | exact Or.inr (Or.inl rfl) | exact Or.inr (Or.inr ⟨nofun, VLe.slice _ _ _⟩)) ?_))
    case inr =>
      have hstep : tkD d (i + 1) = addLast fs0 (byD d.B i) := by rw [tkD, if_neg hnew, hfs0]
      have hi1 : i ≠ 0 := fun e => hnew (.inl e)
      have hb : bitT d.G i = false := by
        rcases (show bitT d.G i = false ∨ bitT d.G i = true by cases bitT d.G i <;> simp) with q | q
        · exact q
        · exact absurd (.inr q) hnew
      (repeat ((first | refine zI (by omega) ?_ | refine zE (by omega) (by omega) ?_ | refine zD (by omega) (by omega) ?_ | refine zY (by omega) ?_ | refine zN (by omega) ?_ | refine amin ?_ | refine amax ?_ | refine zU (by omega) ?_ | refine z8 (by omega) ?_ | refine zX (by omega) (by omega) ?_ | refine zR rfl ?_ | refine acellA ?_ | refine zB H b1 rfl ?_ | refine zC H b1 ?_ | (apply zL H; (· repeat first | exact .h | apply AtK.t); (· rfl)) | (apply zA H; (· repeat first | exact .h | apply AtK.t)) | (apply zS H; (· repeat first | exact .h | apply AtK.t); (· rfl); (conv => whnf); clear H; intro τ H) | rw [List.length_map]); (refine wX ?_)))
      refine aget (by omega) (get_boolsD hiG) ?_
      (refine wX ?_)
      refine acell rfl ?_
      rw [hb]
      (refine wX ?_)
      (repeat ((first | refine zI (by omega) ?_ | refine zE (by omega) (by omega) ?_ | refine zD (by omega) (by omega) ?_ | refine zY (by omega) ?_ | refine zN (by omega) ?_ | refine amin ?_ | refine amax ?_ | refine zU (by omega) ?_ | refine z8 (by omega) ?_ | refine zX (by omega) (by omega) ?_ | refine zR rfl ?_ | refine acellA ?_ | refine zB H b1 rfl ?_ | refine zC H b1 ?_ | (apply zL H; (· repeat first | exact .h | apply AtK.t); (· rfl)) | (apply zA H; (· repeat first | exact .h | apply AtK.t)) | (apply zS H; (· repeat first | exact .h | apply AtK.t); (· rfl); (conv => whnf); clear H; intro τ H) | rw [List.length_map]); (refine wX ?_)))
      have hn0 : fs0 ≠ [] := by
        rw [hfs0]
        cases i with
        | zero => exact absurd rfl hi1
        | succ i => exact tkD_ne d i
      obtain ⟨r, xs, fs, tk1, f, rfl, rfl, rfl, hs⟩ := hv.row_of hn0
      rw [addLast_snoc] at hstep
      have hsl := hs.len
      have hfl := hsm f (by simp)
      (refine wX ?_)
      rw [List.length_append, List.length_singleton] at hln
      (repeat ((first | refine zI (by omega) ?_ | refine zE (by omega) (by omega) ?_ | refine zD (by omega) (by omega) ?_ | refine zY (by omega) ?_ | refine zN (by omega) ?_ | refine amin ?_ | refine amax ?_ | refine zU (by omega) ?_ | refine z8 (by omega) ?_ | refine zX (by omega) (by omega) ?_ | refine zR rfl ?_ | refine acellA ?_ | refine zB H b1 rfl ?_ | refine zC H b1 ?_ | (apply zL H; (· repeat first | exact .h | apply AtK.t); (· rfl)) | (apply zA H; (· repeat first | exact .h | apply AtK.t)) | (apply zS H; (· repeat first | exact .h | apply AtK.t); (· rfl); (conv => whnf); clear H; intro τ H) | rw [List.length_map]); (refine wX ?_)))
      refine hload H (k := 3) rfl (x := sl tk1 f) (by rw [show 0 + (((fs.length + 1 : Nat) : Int) - 1).toNat * 1 = xs.length by omega, List.getElem?_append_right (Nat.le_refl _), Nat.sub_self]; rfl) ?_
      (refine wX ?_)
      (repeat ((first | refine zI (by omega) ?_ | refine zE (by omega) (by omega) ?_ | refine zD (by omega) (by omega) ?_ | refine zY (by omega) ?_ | refine zN (by omega) ?_ | refine amin ?_ | refine amax ?_ | refine zU (by omega) ?_ | refine z8 (by omega) ?_ | refine zX (by omega) (by omega) ?_ | refine zR rfl ?_ | refine acellA ?_ | refine zB H b1 rfl ?_ | refine zC H b1 ?_ | (apply zL H; (· repeat first | exact .h | apply AtK.t); (· rfl)) | (apply zA H; (· repeat first | exact .h | apply AtK.t)) | (apply zS H; (· repeat first | exact .h | apply AtK.t); (· rfl); (conv => whnf); clear H; intro τ H) | rw [List.length_map]); (refine wX ?_)))
      refine aget (by omega) (get_intsD hiB) ?_
      (refine wX ?_)
      refine acell rfl ?_
      (refine wX ?_)
      (repeat ((first | refine zI (by omega) ?_ | refine zE (by omega) (by omega) ?_ | refine zD (by omega) (by omega) ?_ | refine zY (by omega) ?_ | refine zN (by omega) ?_ | refine amin ?_ | refine amax ?_ | refine zU (by omega) ?_ | refine z8 (by omega) ?_ | refine zX (by omega) (by omega) ?_ | refine zR rfl ?_ | refine acellA ?_ | refine zB H b1 rfl ?_ | refine zC H b1 ?_ | (apply zL H; (· repeat first | exact .h | apply AtK.t); (· rfl)) | (apply zA H; (· repeat first | exact .h | apply AtK.t)) | (apply zS H; (· repeat first | exact .h | apply AtK.t); (· rfl); (conv => whnf); clear H; intro τ H) | rw [List.length_map]); (refine wX ?_)))
      apply zP H
      · (repeat first | exact .h | apply AtK.t)
      · exact (by rw [List.length_map, List.length_singleton]; omega)
      intro tk2
      (conv => whnf)
      clear H
      intro τ H
      (refine wX ?_)
      (repeat ((first | refine zI (by omega) ?_ | refine zE (by omega) (by omega) ?_ | refine zD (by omega) (by omega) ?_ | refine zY (by omega) ?_ | refine zN (by omega) ?_ | refine amin ?_ | refine amax ?_ | refine zU (by omega) ?_ | refine z8 (by omega) ?_ | refine zX (by omega) (by omega) ?_ | refine zR rfl ?_ | refine acellA ?_ | refine zB H b1 rfl ?_ | refine zC H b1 ?_ | (apply zL H; (· repeat first | exact .h | apply AtK.t); (· rfl)) | (apply zA H; (· repeat first | exact .h | apply AtK.t)) | (apply zS H; (· repeat first | exact .h | apply AtK.t); (· rfl); (conv => whnf); clear H; intro τ H) | rw [List.length_map]); (refine wX ?_)))
      refine row_put H (k := 3) (q := xs.length) (.t (.t (.t .h))) (by omega) (by simp) rfl ?_
      (conv => whnf)
      clear H
      intro τ H
      rw [hby, show ∀ y, (xs ++ [sl tk1 f]).set xs.length y = xs ++ [y] from fun y => by rw [List.set_append_right _ _ (Nat.le_refl _), Nat.sub_self]; rfl, show (f.map byteV ++ [byteV (byD d.B i)]) = (f ++ [byD d.B i]).map byteV by rw [List.map_append]; rfl] at H
      (refine wX ?_)
      (repeat ((first | refine zI (by omega) ?_ | refine zE (by omega) (by omega) ?_ | refine zD (by omega) (by omega) ?_ | refine zY (by omega) ?_ | refine zN (by omega) ?_ | refine amin ?_ | refine amax ?_ | refine zU (by omega) ?_ | refine z8 (by omega) ?_ | refine zX (by omega) (by omega) ?_ | refine zR rfl ?_ | refine acellA ?_ | refine zB H b1 rfl ?_ | refine zC H b1 ?_ | (apply zL H; (· repeat first | exact .h | apply AtK.t); (· rfl)) | (apply zA H; (· repeat first | exact .h | apply AtK.t)) | (apply zS H; (· repeat first | exact .h | apply AtK.t); (· rfl); (conv => whnf); clear H; intro τ H) | rw [List.length_map]); (refine wX ?_)))
      refine ⟨(i + 1, .ms r 1 0 (fs.length + 1), [.t tk2, .o r (.cells (xs ++ [sl tk2 (f ++ [byD d.B i])]))], τ), ⟨hie, by rw [hstep]; exact .row r xs fs tk2 _ hs, H⟩, by dsimp only; omega, Sub.refl _, ?_⟩
      (refine wX ?_)
      (repeat' first | with_reducible exact EnvLe.refl _ | (refine EnvLe.node ?_ (by first | exact Or.inl rfl | exact Or.inr (Or.inl rfl) | exact Or.inr (Or.inr ⟨nofun, VLe.slice _ _ _⟩)) ?_))
  obtain rfl : i = e := by omega
  have hn0 : tkD d i ≠ [] := by
    cases i with
    | zero => omega
    | succ i => exact tkD_ne d i
  obtain ⟨r, xs, fs, tk1, f, rfl, hfs, rfl, hs⟩ := hv.row_of hn0
  replace H : Hp σb (.o i8 (.cells (dpC .none d)) :: .o ix (.cells (dbC tk l)) :: .t tk1 :: .o r (.cells (xs ++ [sl tk1 f])) :: F) τ := H
  have hs2 : SLs (xs ++ [sl tk1 f]) (tkD d d.e.toNat) := by rw [he, Int.toNat_natCast, hfs]; exact hs.snoc _ _
  have hsl := hs.len
  rcases (show d.wi = false ∨ d.wi = true by cases d.wi <;> simp) with hwi | hwi
  all_goals
    rcases (show d.cu = false ∨ d.cu = true by cases d.cu <;> simp) with hcu | hcu
    all_goals
      (repeat ((first | refine zI (by omega) ?_ | refine zE (by omega) (by omega) ?_ | refine zD (by omega) (by omega) ?_ | refine zY (by omega) ?_ | refine zN (by omega) ?_ | refine amin ?_ | refine amax ?_ | refine zU (by omega) ?_ | refine z8 (by omega) ?_ | refine zX (by omega) (by omega) ?_ | refine zR rfl ?_ | refine acellA ?_ | refine zB H b1 rfl ?_ | refine zC H b1 ?_ | (apply zL H; (· repeat first | exact .h | apply AtK.t); (· rfl)) | (apply zA H; (· repeat first | exact .h | apply AtK.t)) | (apply zS H; (· repeat first | exact .h | apply AtK.t); (· rfl); (conv => whnf); clear H; intro τ H) | rw [List.length_map]); (refine wX ?_)))
      rw [hwi]
      (refine wX ?_)
      (repeat ((first | refine zI (by omega) ?_ | refine zE (by omega) (by omega) ?_ | refine zD (by omega) (by omega) ?_ | refine zY (by omega) ?_ | refine zN (by omega) ?_ | refine amin ?_ | refine amax ?_ | refine zU (by omega) ?_ | refine z8 (by omega) ?_ | refine zX (by omega) (by omega) ?_ | refine zR rfl ?_ | refine acellA ?_ | refine zB H b1 rfl ?_ | refine zC H b1 ?_ | (apply zL H; (· repeat first | exact .h | apply AtK.t); (· rfl)) | (apply zA H; (· repeat first | exact .h | apply AtK.t)) | (apply zS H; (· repeat first | exact .h | apply AtK.t); (· rfl); (conv => whnf); clear H; intro τ H) | rw [List.length_map]); (refine wX ?_)))
      rw [hcu]
      (refine wX ?_)
      (repeat ((first | refine zI (by omega) ?_ | refine zE (by omega) (by omega) ?_ | refine zD (by omega) (by omega) ?_ | refine zY (by omega) ?_ | refine zN (by omega) ?_ | refine amin ?_ | refine amax ?_ | refine zU (by omega) ?_ | refine z8 (by omega) ?_ | refine zX (by omega) (by omega) ?_ | refine zR rfl ?_ | refine acellA ?_ | refine zB H b1 rfl ?_ | refine zC H b1 ?_ | (apply zL H; (· repeat first | exact .h | apply AtK.t); (· rfl)) | (apply zA H; (· repeat first | exact .h | apply AtK.t)) | (apply zS H; (· repeat first | exact .h | apply AtK.t); (· rfl); (conv => whnf); clear H; intro τ H) | rw [List.length_map]); (refine wX ?_)))
      refine acall (eDrop (H.front (k := 1) rfl) hl sn) ?_
      clear H
      rintro _ τ ⟨rfl, tk', l', H, hc⟩
      have hc2 := hc.resolve_left (fun q => by omega)
      replace H := Hp.dropmid (A := [.o r (.cells (xs ++ [sl tk1 f])), .o ix (.cells (dbC tk' l'))]) (B := [.o i8 (.cells (dpC .none d)), .t tk1]) (C := F) (H.front (k := 3) rfl)
      (refine wX ?_)
      exact aret (VLe.refl _) (Sub.refl _) ⟨r, _, _, by unfold fiD; rw [hwi, hcu]; rfl, hs2, by rw [List.length_append, List.length_singleton, hsl], tk', l', H, by rw [h] at hc2; exact hc2⟩
def takeDf (l : List DP) (sn : Int) : Int × List (List UInt8) := match l.find? fun d => d.sn == sn with
  | none => (0, [])
  | some d => if wholeD d = true then (fiD d, tkD d d.e.toNat) else (0, [])
def takeDc (l : List DP) (sn : Int) : Int := match l.find? fun d => d.sn == sn with
  | none => 4
  | some d => if wholeD d = true then 0 else 8
theorem eTake (H : Hp σb (.o ix (.cells (dbC tk l)) :: F) σ) (hl : l.length ≤ 10000) (hok : ∀ d ∈ l, d.Ok) (sn : Int) :
    ACalls Try.prog i_bowlineref24_Buffer_Take [.ptr ix 0, i64v sn] σ fun v σ' => v = .tup [i64v (takeDf l sn).1, lists .none (takeDf l sn).2, i64v (takeDc l sn)] ∧ ∃ tk' l', Hp σb (.o ix (.cells (dbC tk' l')) :: F) σ' ∧
      ((takeDc l sn ≠ 0 ∧ l' = l) ∨ (takeDc l sn = 0 ∧ ∃ A d B, l = A ++ d :: B ∧ d.sn = sn ∧ findE l sn = A.length ∧ l' = A ++ B)) := by
  unfold takeDf takeDc
  rcases find_at l sn with ⟨h1, h2⟩ | ⟨i, hi, h1, h2⟩
  · rw [h2]
    refine acall_less (eTakeNone H hl sn h1) ?_
    rintro _ σ' ⟨rfl, rfl⟩
    exact ⟨_, _, VLe.refl _, Sub.refl _, rfl, tk, l, H, .inl ⟨by decide, rfl⟩⟩
  rw [h2]
  dsimp only
  have hd := hok _ (List.getElem_mem hi)
  rcases (show wholeD l[i] = false ∨ wholeD l[i] = true by cases wholeD l[i] <;> simp) with hw | hw
  · rw [hw]
    refine acall_less (eTakeShort H hl sn hi h1 hd hw) ?_
    rintro _ σ' ⟨rfl, rfl⟩
    exact ⟨_, _, VLe.refl _, Sub.refl _, rfl, tk, l, H, .inl ⟨by decide, rfl⟩⟩
  · rw [if_pos hw, if_pos hw]
    have he : 1 ≤ l[i].e := by
      rcases hd.e with h | h
      · unfold wholeD at hw; rw [h] at hw; simp at hw
      · exact h.1
    refine acall_freezeA (eTakeM H hl sn hi h1 hd hw he) ?_
    rintro v σ' ⟨r, xs, n, rfl, hs, hn, tk', l', H', hc⟩
    exact .inr ⟨r, 1, n, xs, _, by rw [hs.flat]; exact H'.get (k := 0) rfl, hn.symm, hs.one, fun κ u hz h => tup_map1 (fun q hq => hs.lists (hz q hq)) h, rfl, tk', l', H'.del_head, .inr ⟨rfl, hc⟩⟩
end
end Go.Proofs.Ytgobbmdbkmjlnaa
/-
  What came in parts: a piece, and the document's beside it; plain.
-/
namespace Go.Proofs.Ytgobbmdbkmjlnaa
set_option linter.unusedVariables false
set_option linter.unusedSimpArgs false
set_option maxRecDepth 20000
open Go Go.Am

def gI (B : List Int) (i : Nat) : Int := (B[i]?).getD (-1)
theorem gI_at {B : List Int} {i : Nat} (h : i < B.length) : gI B i = B[i] := by unfold gI; rw [List.getElem?_eq_getElem h]; rfl
theorem gI_no {B : List Int} {i : Nat} (h : B.length ≤ i) : gI B i = -1 := by unfold gI; rw [List.getElem?_eq_none h]; rfl
theorem there_gI (B : List Int) (i : Nat) : bitT (thereL B) i = decide (0 ≤ gI B i) := by
  by_cases h : i < B.length
  · rw [thereL_bit h, gI_at h]
  · rw [gI_no (by omega), bitT_no (by rw [thereL_len]; omega)]; rfl
theorem gI_widen (B : List Int) (n i : Nat) : gI (widenB B n) i = gI B i := by
  unfold gI widenB
  by_cases h : i < B.length
  · rw [List.getElem?_append_left h]
  · rw [List.getElem?_append_right (by omega), List.getElem?_replicate, List.getElem?_eq_none (by omega : B.length ≤ i)]
    split <;> rfl
theorem gI_fill {o : Nat} {dd : List UInt8} {W : List Int} : ∀ {k i : Nat}, k ≤ dd.length → o + dd.length ≤ W.length → gI (fillD o dd W k) i = if o ≤ i ∧ i < o + k ∧ gI W i < 0 then (((dd[i - o]?.getD 0).toNat : Nat) : Int) else gI W i
  | 0, i, _, _ => by rw [if_neg (by omega)]; rfl
  | k + 1, i, hk, hW => by
    have ih := fun i => gI_fill (o := o) (dd := dd) (W := W) (k := k) (i := i) (by omega) hW
    have hlen := fillD_len o dd W k
    have hok : o + k < (fillD o dd W k).length := by omega
    have e0 : ((fillD o dd W k)[o + k]?.getD 0) = gI W (o + k) := by
      have := ih (o + k)
      rw [if_neg (by omega), gI_at hok] at this
      rw [List.getElem?_eq_getElem hok]; exact this
    rw [fillD, e0]
    by_cases hneg : gI W (o + k) < 0
    · rw [if_pos hneg]
      by_cases hi : i = o + k
      · subst hi
        rw [if_pos ⟨by omega, by omega, hneg⟩, gI_at (by rw [List.length_set]; exact hok), List.getElem_set_self, show o + k - o = k by omega]
      · have : gI ((fillD o dd W k).set (o + k) (((dd[k]?.getD 0).toNat : Nat) : Int)) i = gI (fillD o dd W k) i := by
          unfold gI; rw [List.getElem?_set_ne (fun e => hi e.symm)]
        rw [this, ih i]
        by_cases hc : o ≤ i ∧ i < o + k ∧ gI W i < 0
        · rw [if_pos hc, if_pos ⟨hc.1, by omega, hc.2.2⟩]
        · rw [if_neg hc, if_neg (fun g => hc ⟨g.1, by omega, g.2.2⟩)]
    · rw [if_neg hneg, ih i]
      by_cases hi : i = o + k
      · subst hi
        rw [if_neg (by omega), if_neg (fun g => hneg g.2.2)]
      · by_cases hc : o ≤ i ∧ i < o + k ∧ gI W i < 0
        · rw [if_pos hc, if_pos ⟨hc.1, by omega, hc.2.2⟩]
        · rw [if_neg hc, if_neg (fun g => hc ⟨g.1, by omega, g.2.2⟩)]
theorem gI_with {d : DP} {p : Pk} (i : Nat) : gI (withB d p) i = if p.off.toNat ≤ i ∧ i < endP p ∧ gI d.B i < 0 then (((p.fs.flatten[i - p.off.toNat]?.getD 0).toNat : Nat) : Int) else gI d.B i := by
  have hfl : p.fs.flatten.length = total p.fs := rfl
  unfold withB
  rw [← hfl, gI_fill (Nat.le_refl _) (by unfold widenB endP; rw [List.length_append, List.length_replicate]; omega), gI_widen, hfl]
  rfl
theorem there_with {d : DP} {p : Pk} (i : Nat) : bitT (thereL (withB d p)) i = (decide (p.off.toNat ≤ i ∧ i < endP p) || bitT (thereL d.B) i) := by
  rw [there_gI, there_gI, gI_with]
  by_cases hc : p.off.toNat ≤ i ∧ i < endP p
  · rw [decide_eq_true hc, Bool.true_or]
    by_cases hn : gI d.B i < 0
    · rw [if_pos ⟨hc.1, hc.2, hn⟩]; exact decide_eq_true (by omega)
    · rw [if_neg (fun g => hn g.2.2)]; exact decide_eq_true (by omega)
  · rw [decide_eq_false hc, Bool.false_or, if_neg (fun g => hc ⟨g.1, g.2.1⟩)]
/-- A piece, and the document's. -/
structure RelP (x : PV) (d : DP) : Prop where
  sn : d.sn = x.sn
  bl : d.B.length = x.D.length
  rel : Rel x.l (thereL d.B)
  val : ∀ i, 0 ≤ gI d.B i → gI d.B i = (((x.D[i]?.getD 0).toNat : Nat) : Int)
  e : d.e = x.e
  em : ∀ k : Nat, hasE x.em k = bitT d.G k
  fi : x.fi = fiD d
theorem relP_fresh (sn : Int) : RelP (freshV sn) (freshD sn) :=
  ⟨rfl, rfl, ⟨Nat.zero_le _, fun p => ⟨fun ⟨a, ha, _⟩ => (by cases ha), fun h => absurd (bitT_lt h.2) (Nat.not_lt_zero _)⟩⟩, fun i h => absurd h (by show ¬ (0 : Int) ≤ -1; omega), rfl, fun k => rfl, rfl⟩
theorem bit_set {l : List Bool} {q i : Nat} (h : q < l.length) : bitT (l.set q true) i = (decide (i = q) || bitT l i) := by
  unfold bitT
  rw [List.getElem?_set]
  by_cases e : q = i
  · subst e; rw [if_pos rfl, if_pos h, decide_eq_true rfl]; rfl
  · rw [if_neg e, decide_eq_false (fun h => e h.symm)]; rfl
theorem bit_widen (G : List Bool) (n i : Nat) : bitT (widenG G n) i = bitT G i := by
  unfold bitT widenG
  by_cases h : i < G.length
  · rw [List.getElem?_append_left h]
  · rw [List.getElem?_append_right (by omega), List.getElem?_replicate, List.getElem?_eq_none (by omega : G.length ≤ i)]
    split <;> rfl
theorem widenG_len (G : List Bool) (n : Nat) : (widenG G n).length = max G.length (n + 1) := by unfold widenG; rw [List.length_append, List.length_replicate]; omega
theorem bit_edgeN {p : Pk} {G : List Bool} (hG : endP p < G.length) {k : Nat} : ∀ m, (bitT (edgeN p G m) k = true ↔ bitT G k = true ∨ ∃ i, 0 < i ∧ i < m + 1 ∧ k = p.off.toNat + total (p.fs.take i))
  | 0 => ⟨.inl, fun h => h.elim id fun ⟨i, h1, h2, _⟩ => absurd h1 (by omega)⟩
  | m + 1 => by
    have ih := bit_edgeN (p := p) (G := G) hG (k := k) m
    have hl := edgeN_len p G m
    have ht := total_take_le p.fs (m + 1)
    rw [edgeN, bit_set (by unfold endP at hG; omega), Bool.or_eq_true, decide_eq_true_iff, ih]
    constructor
    · rintro (h | h | ⟨i, h1, h2, h3⟩)
      · exact .inr ⟨m + 1, by omega, by omega, h⟩
      · exact .inl h
      · exact .inr ⟨i, h1, by omega, h3⟩
    · rintro (h | ⟨i, h1, h2, h3⟩)
      · exact .inr (.inl h)
      · by_cases hi : i = m + 1
        · subst hi; exact .inl h3
        · exact .inr (.inr ⟨i, h1, by omega, h3⟩)
theorem fi_cases {n : Int} (h : 0 ≤ n ∧ n ≤ 3) : n = 0 ∨ n = 1 ∨ n = 2 ∨ n = 3 := by omega
theorem and2 {n : Int} (h : 0 ≤ n ∧ n ≤ 3) : bitsOp .and .i64 n 2 = if 2 ≤ n then 2 else 0 := by
  rcases fi_cases h with rfl | rfl | rfl | rfl <;> decide +kernel
theorem and1 {n : Int} (h : 0 ≤ n ∧ n ≤ 3) : bitsOp .and .i64 n 1 = if n % 2 = 1 then 1 else 0 := by
  rcases fi_cases h with rfl | rfl | rfl | rfl <;> decide +kernel
theorem bit_with {d : DP} {p : Pk} (hr : rightB p = true) (k : Nat) (ends : Bool) : bitT (withG d p ends) k = true ↔ bitT d.G k = true ∨ (p.off ≠ 0 ∧ bitsOp .and .i64 p.fi 2 = 0 ∧ (k : Int) = p.off) ∨ (∃ i, 0 < i ∧ i < p.fs.length ∧ (k : Int) = p.off + (total (p.fs.take i) : Int)) ∨ (ends = false ∧ bitsOp .and .i64 p.fi 1 = 0 ∧ (k : Int) = p.off + (total p.fs : Int)) := by
  obtain ⟨ho, hfi, hn, ht, hpos⟩ := rangesR hr
  have hw := widenG_len d.G (endP p)
  have h1 := edge1_len p (widenG d.G (endP p))
  have h3 := edgeN_len p (edge1 p (widenG d.G (endP p))) (p.fs.length - 1)
  have hnf : 0 < p.fs.length := by
    rcases Nat.eq_zero_or_pos p.fs.length with h | h
    · rw [List.length_eq_zero_iff.1 h] at hpos; exact absurd hpos (by decide)
    · exact h
  have e1 : bitT (edge1 p (widenG d.G (endP p))) k = true ↔ bitT d.G k = true ∨ (p.off ≠ 0 ∧ bitsOp .and .i64 p.fi 2 = 0 ∧ (k : Int) = p.off) := by
    rw [and2 hfi]
    unfold edge1
    by_cases h0 : p.off = 0
    · rw [if_pos h0, bit_widen]; simp [h0]
    · rw [if_neg h0]
      by_cases h2 : p.fi < 2
      · rw [if_pos h2, bit_set (by unfold endP at hw ⊢; omega), Bool.or_eq_true, decide_eq_true_iff, bit_widen, if_neg (by omega)]
        constructor
        · rintro (h | h)
          · exact .inr ⟨h0, rfl, by omega⟩
          · exact .inl h
        · rintro (h | ⟨_, _, h⟩)
          · exact .inr h
          · exact .inl (by omega)
      · rw [if_neg h2, bit_widen, if_pos (by omega)]
        exact ⟨.inl, fun h => h.elim id fun g => absurd g.2.1 (by decide)⟩
  have eN : bitT (edgeN p (edge1 p (widenG d.G (endP p))) (p.fs.length - 1)) k = true ↔ bitT d.G k = true ∨ (p.off ≠ 0 ∧ bitsOp .and .i64 p.fi 2 = 0 ∧ (k : Int) = p.off) ∨ (∃ i, 0 < i ∧ i < p.fs.length ∧ (k : Int) = p.off + (total (p.fs.take i) : Int)) := by
    rw [bit_edgeN (by omega), e1, or_assoc]
    have : (∃ i, 0 < i ∧ i < p.fs.length - 1 + 1 ∧ k = p.off.toNat + total (p.fs.take i)) ↔ (∃ i, 0 < i ∧ i < p.fs.length ∧ (k : Int) = p.off + (total (p.fs.take i) : Int)) :=
      ⟨fun ⟨i, a, b, c⟩ => ⟨i, a, by omega, by omega⟩, fun ⟨i, a, b, c⟩ => ⟨i, a, by omega, by omega⟩⟩
    rw [this]
  unfold withG edgeZ
  rw [and1 hfi] at *
  cases ends
  · rw [if_neg (by simp)]
    by_cases h2 : p.fi % 2 = 0
    · rw [if_pos h2, bit_set (by omega), Bool.or_eq_true, decide_eq_true_iff, eN, if_neg (by omega)]
      constructor
      · rintro (h | h | h | h)
        · exact .inr (.inr (.inr ⟨rfl, rfl, by unfold endP at h; omega⟩))
        · exact .inl h
        · exact .inr (.inl h)
        · exact .inr (.inr (.inl h))
      · rintro (h | h | h | h)
        · exact .inr (.inl h)
        · exact .inr (.inr (.inl h))
        · exact .inr (.inr (.inr h))
        · exact .inl (by have := h.2.2; unfold endP; omega)
    · rw [if_neg h2, eN, if_pos (by omega)]
      constructor
      · rintro (h | h | h)
        · exact .inl h
        · exact .inr (.inl h)
        · exact .inr (.inr (.inl h))
      · rintro (h | h | h | h)
        · exact .inl h
        · exact .inr (.inl h)
        · exact .inr (.inr h)
        · exact absurd h.2.1 (by decide)
  · rw [if_pos rfl, eN]
    constructor
    · rintro (h | h | h)
      · exact .inl h
      · exact .inr (.inl h)
      · exact .inr (.inr (.inl h))
    · rintro (h | h | h | h)
      · exact .inl h
      · exact .inr (.inl h)
      · exact .inr (.inr h)
      · cases h.1
end Go.Proofs.Ytgobbmdbkmjlnaa
/-
  What came in parts: a piece, and the document's beside it: what is put in, and taken; plain.
-/
namespace Go.Proofs.Ytgobbmdbkmjlnaa
set_option linter.unusedVariables false
set_option linter.unusedSimpArgs false
set_option maxRecDepth 20000
open Go Go.Am

theorem endP_int {p : Pk} (hr : rightB p = true) : (endP p : Int) = p.off + (total p.fs : Int) := by
  have := (rangesR hr).1
  unfold endP; omega
theorem spanP_ok {p : Pk} (hr : rightB p = true) : spRight (spanP p) = true := by
  obtain ⟨ho, hfi, hn, ht, hpos⟩ := rangesR hr
  refine spRight_iff.2 ⟨?_, ?_, ?_⟩ <;> unfold spanP <;> dsimp only <;> omega
theorem with_withs {d : DP} {p : Pk} (hr : rightB p = true) : Withs (thereL d.B) (thereL (withB d p)) (spanP p) true := by
  obtain ⟨ho, hfi, hn, ht, hpos⟩ := rangesR hr
  have he := endP_int hr
  refine ⟨?_, fun i => ?_⟩
  · rw [thereL_len, thereL_len, withB_len]
    unfold spanP; dsimp only; omega
  · rw [there_with]
    unfold spanP; dsimp only
    by_cases hc : p.off.toNat ≤ i ∧ i < endP p
    · rw [decide_eq_true hc, if_pos (by omega)]; rfl
    · rw [decide_eq_false hc, if_neg (by omega)]; rfl
theorem fi_put {x : PV} {d : DP} (h : x.fi = fiD d) {p : Pk} (hfi : 0 ≤ p.fi ∧ p.fi ≤ 3) (ends : Bool) : noteF p ends x.fi = fiD (withD d p ends) := by
  have e0 : x.fi = fiV d.wi d.cu := h
  have e1 : noteF1 p x.fi = fiV (withD d p ends).wi d.cu := by
    unfold noteF1
    show _ = fiV (if p.off = 0 then (d.wi || decide (2 ≤ p.fi)) else d.wi) d.cu
    by_cases h0 : p.off = 0
    · rw [if_pos h0, if_pos h0, e0, and2 hfi]
      have := fi_or2 d.wi d.cu (decide (2 ≤ p.fi))
      by_cases h2 : 2 ≤ p.fi
      · rw [decide_eq_true h2] at this ⊢; rw [if_pos h2]; exact this
      · rw [decide_eq_false h2] at this ⊢; rw [if_neg h2]; exact this
    · rw [if_neg h0, if_neg h0, e0]
  unfold noteF
  show _ = fiV (withD d p ends).wi (if ends = true then (d.cu || decide (p.fi % 2 = 1)) else d.cu)
  cases ends
  · rw [if_neg (by simp), if_neg (by simp), e1]
  · rw [if_pos rfl, if_pos rfl, e1, and1 hfi]
    have := fi_or1 (withD d p true).wi d.cu (decide (p.fi % 2 = 1))
    by_cases h2 : p.fi % 2 = 1
    · rw [decide_eq_true h2] at this ⊢; rw [if_pos h2]; exact this
    · rw [decide_eq_false h2] at this ⊢; rw [if_neg h2]; exact this
theorem one_has {l : List Sp} (h : SOk l) {i : Nat} (hi : i < 65536) : hasS ((i : Int), (i : Int) + 1) l = true ↔ hasP l i := by
  rw [hasS_iff h]
  constructor
  · rintro ⟨_, h2⟩; exact h2 _ (Int.le_refl _) (by dsimp only; omega)
  · intro h2
    refine ⟨spRight_iff.2 ⟨by dsimp only; omega, by dsimp only; omega, by dsimp only; omega⟩, fun p h3 h4 => ?_⟩
    dsimp only at h3 h4
    rw [show p = (i : Int) by omega]; exact h2
theorem RelP.has {x : PV} {d : DP} (h : RelP x d) (so : SOk x.l) {i : Nat} (hi : i < 65536) : hasS ((i : Int), (i : Int) + 1) x.l = decide (0 ≤ gI d.B i) := by
  rw [Bool.eq_iff_iff, one_has so hi, h.rel.has, Int.toNat_natCast, there_gI]
  exact ⟨fun g => g.2, fun g => ⟨by omega, g⟩⟩
theorem wideB_get (D : List UInt8) (n i : Nat) : ((wideB D n)[i]?).getD 0 = (D[i]?).getD 0 := by
  unfold wideB
  split
  · by_cases h : i < D.length
    · rw [List.getElem?_append_left h]
    · rw [List.getElem?_append_right (by omega), List.getElem?_replicate, List.getElem?_eq_none (by omega : D.length ≤ i)]
      split <;> rfl
  · rfl
theorem fillB_get {l : List Sp} {o : Nat} {dd D : List UInt8} (i : Nat) : ((fillB l o dd D)[i]?).getD 0 = if o ≤ i ∧ i < o + dd.length ∧ hasS ((i : Int), (i : Int) + 1) l = false then (dd[i - o]?).getD 0 else (D[i]?).getD 0 := by
  unfold fillB
  rw [fillN_get (Nat.le_refl _) (by rw [wideB_len]; omega)]
  split
  · rfl
  · rw [wideB_get]
theorem RelP.put {x : PV} {d : DP} (h : RelP x d) (ok : x.Ok) {p : Pk} (hr : rightB p = true) (h0 : putK p x.l x.e = 0) : RelP (updV x p) (withD d p (endsP p)) := by
  obtain ⟨_, _, ha⟩ := putK_zero h0
  obtain ⟨ho, hfi, hn, ht, hpos⟩ := rangesR hr
  have he := endP_int hr
  have hfl : p.fs.flatten.length = total p.fs := rfl
  have hee : endsB p = endsP p := rfl
  obtain ⟨n1, r1⟩ := rel_add ok.so h.rel (spanP_ok hr) (with_withs (d := d) hr)
  refine ⟨h.sn, ?_, ?_, fun i hi => ?_, ?_, fun k => ?_, ?_⟩
  · show (withB d p).length = (fillB x.l p.off.toNat p.fs.flatten x.D).length
    rw [withB_len, fillB_len, h.bl]; rfl
  · show Rel (addS (spanP p) x.l) (thereL (withB d p))
    rw [(addC_zero ha).2.2]; exact r1
  · show gI (withB d p) i = ((((fillB x.l p.off.toNat p.fs.flatten x.D)[i]?.getD 0).toNat : Nat) : Int)
    have hi : 0 ≤ gI (withB d p) i := hi
    rw [fillB_get, gI_with]
    rw [gI_with] at hi
    by_cases hc : p.off.toNat ≤ i ∧ i < endP p
    · have hlt : i < 65536 := by omega
      rw [h.has ok.so hlt]
      by_cases hn2 : gI d.B i < 0
      · rw [if_pos ⟨hc.1, hc.2, hn2⟩, if_pos ⟨hc.1, by rw [hfl]; exact hc.2, decide_eq_false (by omega)⟩]
      · rw [if_neg (fun g => hn2 g.2.2), if_neg (fun g => by rw [decide_eq_true (by omega : 0 ≤ gI d.B i)] at g; cases g.2.2)]
        exact h.val i (by omega)
    · rw [if_neg (fun g => hc ⟨g.1, g.2.1⟩)] at hi ⊢
      rw [if_neg (fun g => hc ⟨g.1, by have := g.2.1; unfold endP; omega⟩)]
      exact h.val i hi
  · show (if endsP p = true then (endP p : Int) else d.e) = noteE p (endsB p) x.e
    unfold noteE
    rw [hee, h.e, he]
  · show hasE (noteM p (endsB p) x.em) k = bitT (withG d p (endsP p)) k
    rw [Bool.eq_iff_iff, hasE_noteM, bit_with hr, h.em k, hee]
  · exact fi_put h.fi hfi _
theorem withG_len {d : DP} {p : Pk} {ends : Bool} : (withG d p ends).length = max d.G.length (endP p + 1) := by
  have h3 := edgeN_len p (edge1 p (widenG d.G (endP p))) (p.fs.length - 1)
  rw [edge1_len, widenG_len] at h3
  unfold withG edgeZ
  repeat' split
  · exact h3
  · rw [List.length_set]; exact h3
  · exact h3
theorem withD_ok {d : DP} (h : d.Ok) {p : Pk} (hr : rightB p = true) : (withD d p (endsP p)).Ok := by
  obtain ⟨ho, hfi, hn, ht, hpos⟩ := rangesR hr
  have hi := endP_int hr
  have hb := withB_len d p
  have hg := withG_len (d := d) (p := p) (ends := endsP p)
  have h1 := h.bl
  have h2 := h.gl
  refine ⟨?_, ?_, ?_, fun z hz => ?_⟩
  · show (withB d p).length ≤ 4000
    omega
  · show (withG d p (endsP p)).length ≤ 4001
    omega
  · show (if endsP p = true then (endP p : Int) else d.e) = -1 ∨ (1 ≤ (if endsP p = true then (endP p : Int) else d.e) ∧ (if endsP p = true then (endP p : Int) else d.e) ≤ 4000 ∧ (if endsP p = true then (endP p : Int) else d.e) < ((withG d p (endsP p)).length : Int) ∧ (if endsP p = true then (endP p : Int) else d.e) ≤ ((withB d p).length : Int))
    split
    · omega
    · have := h.e; omega
  · obtain ⟨i, hi, rfl⟩ := List.getElem_of_mem (show z ∈ withB d p from hz)
    rw [← gI_at hi, gI_with]
    have hbv : -1 ≤ gI d.B i ∧ gI d.B i < 256 := by
      by_cases h4 : i < d.B.length
      · rw [gI_at h4]; exact h.bv _ (List.getElem_mem h4)
      · rw [gI_no (by omega)]; omega
    split
    · have := (p.fs.flatten[i - p.off.toNat]?.getD 0).toNat_lt
      omega
    · exact hbv
theorem topL_mem {l : List Sp} (h : l ≠ []) : ∃ y ∈ l, topL l = y.2 := by
  rcases snoc_cases l with rfl | ⟨r, z, rfl⟩
  · exact absurd rfl h
  · exact ⟨z, by simp, by unfold topL; rw [List.getLast?_concat]⟩
theorem Nrm.below : ∀ {b : Int} {l : List Sp}, Nrm b l → ∀ y ∈ l, y.2 ≤ topL l
  | _, [], _, y, hy => by cases hy
  | b, [z], _, y, hy => by rw [List.mem_singleton.1 hy]; exact Int.le_refl _
  | b, z :: w :: l, h, y, hy => by
    have e : topL (z :: w :: l) = topL (w :: l) := by unfold topL; rw [List.getLast?_cons_cons]
    rw [e]
    have ih := Nrm.below (b := z.2) (l := w :: l) h.2.2.2
    rcases List.mem_cons.1 hy with rfl | hy
    · have h2 := Nrm.mem h.2.2.2 (List.mem_cons_self ..)
      have := ih w (List.mem_cons_self ..)
      omega
    · exact ih y hy
theorem topT_spec (L : List Bool) : ∀ n, (∀ j, topT L n ≤ j → j < n → bitT L j = false) ∧ (topT L n = 0 ∨ bitT L (topT L n - 1) = true)
  | 0 => ⟨fun j _ h => absurd h (Nat.not_lt_zero _), .inl rfl⟩
  | n + 1 => by
    obtain ⟨h1, h2⟩ := topT_spec L n
    unfold topT
    by_cases hb : bitT L n = true
    · rw [if_pos hb]
      exact ⟨fun j h3 h4 => by omega, .inr (by rw [Nat.add_sub_cancel]; exact hb)⟩
    · rw [if_neg hb]
      refine ⟨fun j h3 h4 => ?_, h2⟩
      by_cases hj : j = n
      · subst hj; simpa using hb
      · exact h1 j h3 (by omega)
theorem top_eq {l : List Sp} {M : List Bool} (h : SOk l) (k : Rel l M) : topL l = (topT M M.length : Int) := by
  obtain ⟨h1, h2⟩ := topT_spec M M.length
  have hup : ∀ j, bitT M j = true → j < topT M M.length := fun j hj => by
    rcases Nat.lt_or_ge j (topT M M.length) with q | q
    · exact q
    · have := h1 j q (bitT_lt hj)
      rw [hj] at this; cases this
  by_cases hl : l = []
  · subst hl
    rcases h2 with h2 | h2
    · rw [h2]; rfl
    · have := (k.has ((topT M M.length - 1 : Nat) : Int)).2 ⟨by omega, by rw [Int.toNat_natCast]; exact h2⟩
      exact (has_nil.1 this).elim
  · obtain ⟨y, hy, e⟩ := topL_mem hl
    have hn := Nrm.mem h.n hy
    have h3 : hasP l (y.2 - 1) := ⟨y, hy, by omega, by omega⟩
    have h4 := hup _ ((k.has _).1 h3).2
    rcases h2 with h2 | h2
    · omega
    · obtain ⟨z, hz, h5, h6⟩ := (k.has ((topT M M.length - 1 : Nat) : Int)).2 ⟨by omega, by rw [Int.toNat_natCast]; exact h2⟩
      have := h.n.below z hz
      omega
theorem RelP.top {x : PV} {d : DP} (h : RelP x d) (so : SOk x.l) : topL x.l = (topT (thereL d.B) d.B.length : Int) := by
  have := top_eq so h.rel
  rw [thereL_len] at this
  exact this
theorem RelP.miss {x : PV} {d : DP} (h : RelP x d) (so : SOk x.l) (hd : d.Ok) : missL x.l x.e = missO d := by
  unfold missL missO gapsT
  have hg := fun to => rel_gap so h.rel to
  have he := hd.e
  rw [← h.e]
  by_cases h1 : 0 ≤ d.e
  · rw [if_pos (by omega), if_pos h1, hg]
  · rw [if_neg (by omega), if_neg h1, h.top so, hg]
theorem RelP.whole {x : PV} {d : DP} (h : RelP x d) (so : SOk x.l) (hd : d.Ok) : wholeV x.l x.e = wholeD d := by
  unfold wholeV wholeD
  rw [← h.e]
  rcases hd.e with h1 | ⟨h1, h2, _⟩
  · rw [h1]; rfl
  · rw [decide_eq_true (by omega : d.e > 0), decide_eq_true (by omega : 0 ≤ d.e), Bool.true_and, Bool.true_and, rel_all so h.rel (spRight_iff.2 ⟨by dsimp only; omega, by dsimp only; omega, by dsimp only; omega⟩)]
    dsimp only
    rw [Int.sub_zero]
theorem RelP.code {x : PV} {d : DP} {l : List DP} {p : Pk} (h : RelP x d) (so : SOk x.l) (hd : d.Ok) (hx : pieceD l p.sn = d) : putK p x.l x.e = putDc l p := by
  unfold putK
  rcases (show rightB p = false ∨ rightB p = true by cases rightB p <;> simp) with hr | hr
  · rw [if_pos hr, put_1 hr]
  rw [if_neg (by rw [hr]; simp)]
  obtain ⟨ho, hfi, hn, ht, hpos⟩ := rangesR hr
  have hend := endP_int hr
  have hsp := spanP_ok hr
  have hee : endsB p = endsP p := rfl
  have he := hd.e
  have hb3 : ((x.e ≠ -1 ∧ ((spanP p).2 > x.e ∨ (endsB p = true ∧ (spanP p).2 ≠ x.e))) ∨ (endsB p = true ∧ topL x.l > (spanP p).2)) ↔ bad3 l p := by
    unfold bad3
    rw [hx, hee, h.top so, ← h.e]
    have e2 : (spanP p).2 = (endP p : Int) := hend.symm
    rw [e2]
    constructor
    · rintro (⟨a, b⟩ | ⟨a, b⟩)
      · exact .inl ⟨by omega, b⟩
      · exact .inr ⟨a, by omega⟩
    · rintro (⟨a, b⟩ | ⟨a, b⟩)
      · exact .inl ⟨by omega, b⟩
      · exact .inr ⟨a, by omega⟩
  unfold fitsC
  by_cases c1 : bad3 l p
  · rw [if_pos (hb3.2 c1), if_pos (by decide), put_3 hr c1]
  rw [if_neg (fun g => c1 (hb3.1 g))]
  have hcnt : hasS (spanP p) x.l = decide (((cntT (thereL (pieceD l p.sn).B) (p.off, (endP p : Int)) : Nat) : Int) = total p.fs) := by
    rw [rel_all so h.rel hsp, hx]
    unfold spanP
    dsimp only
    rw [hend, show p.off + (total p.fs : Int) - p.off = (total p.fs : Int) by omega]
  by_cases c2 : ((cntT (thereL (pieceD l p.sn).B) (p.off, (endP p : Int)) : Nat) : Int) = total p.fs
  · rw [decide_eq_true c2] at hcnt
    rw [hcnt, if_pos rfl, if_pos (by decide), put_12 hr c1 c2]
  rw [decide_eq_false c2] at hcnt
  rw [hcnt, if_neg (by simp)]
  obtain ⟨n1, r1⟩ := rel_add so h.rel hsp (with_withs (d := d) hr)
  have hrun := rel_run n1 r1
  rw [thereL_len] at hrun
  unfold addC spCode
  rw [if_pos hsp]
  by_cases c3 : (runT (thereL (withB (pieceD l p.sn) p)) true (withB (pieceD l p.sn) p).length).length > 2048
  · rw [put_5 hr c1 c2 c3]
    rw [hx, hrun] at c3
    rw [if_pos c3]
  · rw [put_0 hr c1 c2 c3]
    rw [hx, hrun] at c3
    rw [if_neg c3]
theorem RelP.byte {x : PV} {d : DP} (h : RelP x d) {k : Nat} (hk : k < d.B.length) (h0 : 0 ≤ d.B[k]) : ∃ hk2 : k < x.D.length, byD d.B k = x.D[k] := by
  have hk2 : k < x.D.length := by rw [← h.bl]; exact hk
  refine ⟨hk2, ?_⟩
  have hv := h.val k (by rw [gI_at hk]; exact h0)
  rw [gI_at hk, List.getElem?_eq_getElem hk2] at hv
  unfold byD
  rw [List.getElem?_eq_getElem hk]
  show UInt8.ofNat (d.B[k]).toNat = _
  rw [hv]
  show UInt8.ofNat (((x.D[k].toNat : Nat) : Int)).toNat = _
  rw [Int.toNat_natCast]
  exact UInt8.ofNat_toNat
/-- What is taken, so far. -/
theorem RelP.taken {x : PV} {d : DP} (h : RelP x d) {e : Nat} (he : d.e = e) (hall : ∀ k, k < e → ∃ hk : k < d.B.length, 0 ≤ d.B[k]) : ∀ k, k < e → tkD d (k + 1) = (takeN x.D x.em x.e k).1 ++ [(x.D.take (k + 1)).drop (takeN x.D x.em x.e k).2] ∧ (takeN x.D x.em x.e k).2 ≤ k
  | 0, hk => by
    obtain ⟨h1, h2⟩ := hall 0 hk
    obtain ⟨h3, h4⟩ := h.byte h1 h2
    refine ⟨?_, Nat.le_refl _⟩
    rw [tkD, if_pos (.inl rfl), h4]
    show [] ++ [[x.D[0]]] = [] ++ [(x.D.take 1).drop 0]
    rw [List.take_add_one, List.getElem?_eq_getElem h3]; rfl
  | k + 1, hk => by
    obtain ⟨ih, ih2⟩ := h.taken he hall k (by omega)
    obtain ⟨h1, h2⟩ := hall (k + 1) hk
    obtain ⟨h3, h4⟩ := h.byte h1 h2
    have et : x.D.take (k + 1 + 1) = x.D.take (k + 1) ++ [x.D[k + 1]] := by rw [List.take_add_one, List.getElem?_eq_getElem h3]; rfl
    have htl : (x.D.take (k + 1)).length = k + 1 := by rw [List.length_take]; omega
    have hne : ¬ ((k : Int) + 1 = x.e) := by rw [← h.e, he]; omega
    have hem : hasE x.em ((k : Int) + 1) = bitT d.G (k + 1) := h.em (k + 1)
    have eT : takeN x.D x.em x.e (k + 1) = if ((k : Int) + 1 = x.e ∨ hasE x.em ((k : Int) + 1) = true) then ((takeN x.D x.em x.e k).1 ++ [(x.D.take (k + 1)).drop (takeN x.D x.em x.e k).2], k + 1) else takeN x.D x.em x.e k := rfl
    rw [eT, hem]
    by_cases hb : bitT d.G (k + 1) = true
    · rw [if_pos (.inr hb), tkD, if_pos (.inr hb), ih, h4]
      refine ⟨?_, Nat.le_refl _⟩
      dsimp only
      rw [et, List.drop_left' htl]
    · rw [if_neg (by rintro (g | g) <;> contradiction), tkD, if_neg (by rintro (g | g) <;> first | omega | contradiction), ih, addLast_snoc, h4]
      refine ⟨?_, by omega⟩
      rw [et, List.drop_append_of_le_length (by omega)]
theorem RelP.take {x : PV} {d : DP} (h : RelP x d) (so : SOk x.l) (hd : d.Ok) (hw : wholeD d = true) : (takeN x.D x.em x.e x.e.toNat).1 = tkD d d.e.toNat := by
  have h1e : 1 ≤ d.e := by
    rcases hd.e with q | q
    · unfold wholeD at hw; rw [q] at hw; simp at hw
    · exact q.1
  obtain ⟨e, he⟩ : ∃ e : Nat, d.e = e := ⟨d.e.toNat, by omega⟩
  have hall : ∀ k, k < e → ∃ hk : k < d.B.length, 0 ≤ d.B[k] := fun k hk => by
    unfold wholeD at hw
    rw [Bool.and_eq_true] at hw
    have h3 := of_decide_eq_true hw.2
    rw [he] at h3
    have h4 := cnt_all (L := thereL d.B) (n := e) (by omega) k hk
    have h5 : k < d.B.length := by have := bitT_lt h4; rwa [thereL_len] at this
    rw [thereL_bit h5] at h4
    exact ⟨h5, of_decide_eq_true h4⟩
  have ht := (h.taken he hall (e - 1) (by omega)).1
  rw [← h.e, he, Int.toNat_natCast]
  obtain ⟨m, rfl⟩ : ∃ m, e = m + 1 := ⟨e - 1, by omega⟩
  rw [Nat.add_sub_cancel, ← h.e, he] at ht
  rw [ht]
  have eT : takeN x.D x.em ((m + 1 : Nat) : Int) (m + 1) = if ((m : Int) + 1 = ((m + 1 : Nat) : Int) ∨ hasE x.em ((m : Int) + 1) = true) then ((takeN x.D x.em ((m + 1 : Nat) : Int) m).1 ++ [(x.D.take (m + 1)).drop (takeN x.D x.em ((m + 1 : Nat) : Int) m).2], m + 1) else takeN x.D x.em ((m + 1 : Nat) : Int) m := rfl
  rw [eT, if_pos (.inl (by omega))]
end Go.Proofs.Ytgobbmdbkmjlnaa
/-
  What of fields lies between two places of their bytes; plain.
-/
namespace Go.Proofs.Ytgobbmdbkmjlnaa
set_option linter.unusedVariables false
set_option linter.unusedSimpArgs false
open Go Go.Am

end Go.Proofs.Ytgobbmdbkmjlnaa
/-
  Packets that are cut anew: sizes, and where fields end.
-/
namespace Go.Proofs.Ytgobbmdbkmjlnaa
set_option linter.unusedVariables false
set_option linter.unusedSimpArgs false
open Go Go.Am

theorem As10 (p : Pk) (σ : AHeap) : ACalls Try.prog i_bowlinelaw10_As [amV p] σ fun v σ' => v = amV p ∧ σ' = σ := by
  refine k_bowlinelaw10_As rfl ?_
  have H := Hp.nil σ
  (refine wX ?_)
  refine hnew H rfl ?_
  clear H
  intro i1 τ H
  (refine wX ?_)
  refine hnew H rfl ?_
  clear H
  intro i2 τ H
  (refine wX ?_)
  (repeat ((first | refine zI (by omega) ?_ | refine zE (by omega) (by omega) ?_ | refine zD (by omega) (by omega) ?_ | refine zY (by omega) ?_ | refine zN (by omega) ?_ | refine amin ?_ | refine amax ?_ | refine zU (by omega) ?_ | refine z8 (by omega) ?_ | refine zX (by omega) (by omega) ?_ | refine zR rfl ?_ | refine acellA ?_ | (apply zL H; (· repeat first | exact .h | apply AtK.t); (· rfl)) | (apply zA H; (· repeat first | exact .h | apply AtK.t)) | (apply zS H; (· repeat first | exact .h | apply AtK.t); (· rfl); (conv => whnf); clear H; intro τ H) | rw [List.length_map]); (refine wX ?_)))
  exact aret (VLe.refl _) H.sub ⟨rfl, rfl⟩
end Go.Proofs.Ytgobbmdbkmjlnaa
