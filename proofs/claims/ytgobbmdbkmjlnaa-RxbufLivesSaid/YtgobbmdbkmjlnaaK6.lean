/-
  Texts of this claim, pack 6: Crxbb, Crxbc, Crxbd, Cmsa, Crxbe, Crxbf, Crxbg, Crxbh.
-/
import Derived.Test.YtgobbmdbkmjlnaaK5
/-
  What came in parts: bytes are filled in.
-/
namespace Go.Proofs.Ytgobbmdbkmjlnaa
set_option linter.unusedVariables false
set_option linter.unusedSimpArgs false
set_option maxRecDepth 20000
open Go Go.Am

/-- A row of bytes that is stored into, or none yet. -/
inductive RB : AVal → List UInt8 → List HE → Prop
  | nil : RB (.slice 1 [] .full) [] []
  | row (r : Nat) (D : List UInt8) : D ≠ [] → RB (.ms r 1 0 D.length) D [.o r (.cells (D.map byteV))]
def BOk (σ : AHeap) (v : AVal) (D : List UInt8) : Prop := (v = .slice 1 [] .full ∧ D = []) ∨ ∃ r, v = .ms r 1 0 D.length ∧ σ r = some (.cells (D.map byteV)) ∧ D ≠ []
theorem RB.dv {σb σ : AHeap} {v : AVal} {D : List UInt8} {E F G : List HE} (h : RB v D E) (H : Hp σb (F ++ (E ++ G)) σ) : BOk σ v D := by
  cases h with
  | nil => exact .inl ⟨rfl, rfl⟩
  | row r D hx => exact .inr ⟨r, rfl, H.ok (.o r (.cells (D.map byteV))) (by simp), hx⟩
theorem RB.isCell {v : AVal} {D : List UInt8} {E : List HE} (h : RB v D E) : v.isCell = true := by cases h <;> rfl
theorem cloneB {σ : AHeap} {v : AVal} {D : List UInt8} (h : BOk σ v D) (hl : D.length ≤ 140737488355328) : ACalls Try.prog i_slices_Clone_byte_byte [v] σ fun v' σ' => ∃ E, RB v' D E ∧ Hp σ E σ' := by
  have H := Hp.nil σ
  rcases h with ⟨rfl, rfl⟩ | ⟨r, rfl, hs, hn⟩
  · refine acall_less (CloneM [] .full σ (by simp)) ?_
    rintro _ σ' (⟨_, rfl, rfl⟩ | ⟨h, _⟩)
    · exact ⟨_, _, VLe.refl _, Sub.refl _, [], .nil, H⟩
    · exact absurd rfl h
  · refine km_slices_Clone_byte_byte rfl ?_
    (refine wX ?_)
    refine ⟨⟨_, hs, by simp, ?_⟩⟩
    rw [List.drop_zero, List.take_of_length_le (by simp)]
    have hm : D.map byteV ≠ [] := by simpa using hn
    refine happnew H hm (by rw [List.length_map]; omega) (bytes_ok D) fun r2 τ H => ?_
    rw [List.length_map]
    rw [bytes_flat] at H
    (refine wX ?_)
    exact aret (VLe.refl _) (Sub.refl _) ⟨_, .row r2 D hn, H⟩
/-- Bytes put where there are none. -/
def fillN (l : List Sp) (f : Nat) (d D : List UInt8) : Nat → List UInt8
  | 0 => D
  | k + 1 => if hasS ((f : Int) + (k : Int), (f : Int) + (k : Int) + 1) l = true then fillN l f d D k else (fillN l f d D k).set (f + k) (d[k]?.getD 0)
theorem fillN_len (l : List Sp) (f : Nat) (d D : List UInt8) : ∀ k, (fillN l f d D k).length = D.length
  | 0 => rfl
  | k + 1 => by
    unfold fillN
    split
    · exact fillN_len l f d D k
    · rw [List.length_set]; exact fillN_len l f d D k
def wideB (D : List UInt8) (to : Nat) : List UInt8 := if D.length < to then D ++ List.replicate (to - D.length) 0 else D
theorem wideB_len (D : List UInt8) (to : Nat) : (wideB D to).length = max D.length to := by
  unfold wideB
  split
  · rw [List.length_append, List.length_replicate]; omega
  · omega
def fillB (l : List Sp) (f : Nat) (d D : List UInt8) : List UInt8 := fillN l f d (wideB D (f + d.length)) d.length
theorem fillB_len (l : List Sp) (f : Nat) (d D : List UInt8) : (fillB l f d D).length = max D.length (f + d.length) := by unfold fillB; rw [fillN_len, wideB_len]

section
variable {σb σ : AHeap} {ip is ig : Nat} {e fi : Int} {l : List Sp} {tk : Tok} {v : AVal} {D : List UInt8} {E G : List HE}
set_option maxHeartbeats 2000000 in
theorem peFill (h : RB v D E) (H : Hp σb (E ++ (.o ip (.cells (peC v is e ig fi)) :: .o is (.cells [spL tk l]) :: G)) σ) (f : Nat) (d : List UInt8) (hd : d ≠ []) (hf : f + d.length ≤ 1000000) (hD : D.length ≤ 1000000) (hl : l.length ≤ 1000000) :
    ACalls Try.prog i_rxbuf_piece_fill [.ptr ip 0, i64v f, sl .none d] σ fun r σ' => r = .tup [] ∧ ∃ v' E', RB v' (fillB l f d D) E' ∧ Hp σb (E' ++ (.o ip (.cells (peC v' is e ig fi)) :: .o is (.cells [spL tk l]) :: G)) σ' := by
  have hdl : d.length ≠ 0 := by simpa using hd
  refine km_rxbuf_piece_fill rfl ?_
  (refine wX ?_)
  (repeat ((first | refine zI (by omega) ?_ | refine zE (by omega) (by omega) ?_ | refine zD (by omega) (by omega) ?_ | refine zY (by omega) ?_ | refine zN (by omega) ?_ | refine amin ?_ | refine amax ?_ | refine zU (by omega) ?_ | refine z8 (by omega) ?_ | refine zX (by omega) (by omega) ?_ | refine zR rfl ?_ | refine acellA ?_ | (apply zL H; (· repeat first | exact .h | apply AtK.t); (· rfl)) | (apply zA H; (· repeat first | exact .h | apply AtK.t)) | (apply zS H; (· repeat first | exact .h | apply AtK.t); (· rfl); (conv => whnf); clear H; intro τ H) | rw [List.length_map]); (refine wX ?_)))
  obtain ⟨D1, hD1⟩ : ∃ D1, D1 = wideB D (f + d.length) := ⟨_, rfl⟩
  have hl1 : D1.length = max D.length (f + d.length) := by rw [hD1]; exact wideB_len _ _
  have hD1n : D1 ≠ [] := fun h => by rw [h] at hl1; simp at hl1; omega
  unfold fillB
  rw [← hD1]
  by_cases hlt : D.length < f + d.length
  case' pos =>
    unfold wideB at hD1
    rw [if_pos hlt] at hD1
    cases h
    case' nil =>
      replace H : Hp σb (.o ip (.cells (peC (.slice 1 [] .full) is e ig fi)) :: .o is (.cells [spL tk l]) :: G) σ := H
      (repeat ((first | refine zI (by omega) ?_ | refine zE (by omega) (by omega) ?_ | refine zD (by omega) (by omega) ?_ | refine zY (by omega) ?_ | refine zN (by omega) ?_ | refine amin ?_ | refine amax ?_ | refine zU (by omega) ?_ | refine z8 (by omega) ?_ | refine zX (by omega) (by omega) ?_ | refine zR rfl ?_ | refine acellA ?_ | (apply zL H; (· repeat first | exact .h | apply AtK.t); (· rfl)) | (apply zA H; (· repeat first | exact .h | apply AtK.t)) | (apply zS H; (· repeat first | exact .h | apply AtK.t); (· rfl); (conv => whnf); clear H; intro τ H) | rw [List.length_map]); (refine wX ?_)))
      have e0 : (((f : Nat) : Int) + ((d.length : Nat) : Int) - (([] : List AVal).length : Nat)).toNat = f + d.length - ([] : List UInt8).length := by simp; omega
      rw [e0]
      have e1 : List.replicate (f + d.length - ([] : List UInt8).length) (AVal.v (.int .u8 0)) = D1.map byteV := by rw [hD1, List.nil_append, List.map_replicate]; rfl
      rw [e1]
      refine ⟨by simp; omega, by simp; omega, by simp; omega, .inr (happnew H (by simpa using hD1n) (by rw [List.length_map]; omega) (bytes_ok D1) fun r τ H => ?_)⟩
      rw [bytes_flat] at H
      rw [List.length_map]
      (refine wX ?_)
    case' row r hx =>
      replace H : Hp σb (.o r (.cells (D.map byteV)) :: .o ip (.cells (peC (.ms r 1 0 D.length) is e ig fi)) :: .o is (.cells [spL tk l]) :: G) σ := H
      (repeat ((first | refine zI (by omega) ?_ | refine zE (by omega) (by omega) ?_ | refine zD (by omega) (by omega) ?_ | refine zY (by omega) ?_ | refine zN (by omega) ?_ | refine amin ?_ | refine amax ?_ | refine zU (by omega) ?_ | refine z8 (by omega) ?_ | refine zX (by omega) (by omega) ?_ | refine zR rfl ?_ | refine acellA ?_ | (apply zL H; (· repeat first | exact .h | apply AtK.t); (· rfl)) | (apply zA H; (· repeat first | exact .h | apply AtK.t)) | (apply zS H; (· repeat first | exact .h | apply AtK.t); (· rfl); (conv => whnf); clear H; intro τ H) | rw [List.length_map]); (refine wX ?_)))
      have e0 : (((f : Nat) : Int) + ((d.length : Nat) : Int) - (D.length : Nat)).toNat = f + d.length - D.length := by omega
      rw [e0]
      have e1 : List.replicate (f + d.length - D.length) (AVal.v (.int .u8 0)) = (List.replicate (f + d.length - D.length) (0 : UInt8)).map byteV := by rw [List.map_replicate]; rfl
      rw [e1]
      refine ⟨by omega, by omega, by omega, happm H (k := 0) rfl (by simp) (by simp; omega) (bytes_ok _) fun r2 τ H => ?_⟩
      rw [bytes_flat, ← List.map_append, ← hD1] at H
      rw [show D.length + (List.map byteV (List.replicate (f + d.length - D.length) (0 : UInt8))).length = D1.length by rw [hD1]; simp]
      clear e1 e0
      generalize r2 = r at *
      (refine wX ?_)
    all_goals
      apply zS H
      · (repeat first | exact .h | apply AtK.t)
      · rfl
      (conv => whnf)
      clear H
      intro τ H
      (refine wX ?_)
      replace H : Hp σb (.o r (.cells (D1.map byteV)) :: .o ip (.cells (peC (.ms r 1 0 D1.length) is e ig fi)) :: .o is (.cells [spL tk l]) :: G) τ := H
  case' neg =>
    unfold wideB at hD1
    rw [if_neg hlt] at hD1
    subst hD1
    cases h
    case' nil => exact absurd rfl hD1n
    case' row r hx =>
      replace H : Hp σb (.o r (.cells (D1.map byteV)) :: .o ip (.cells (peC (.ms r 1 0 D1.length) is e ig fi)) :: .o is (.cells [spL tk l]) :: G) σ := H
      generalize σ = τ at *
  all_goals
    (repeat ((first | refine zI (by omega) ?_ | refine zE (by omega) (by omega) ?_ | refine zD (by omega) (by omega) ?_ | refine zY (by omega) ?_ | refine zN (by omega) ?_ | refine amin ?_ | refine amax ?_ | refine zU (by omega) ?_ | refine z8 (by omega) ?_ | refine zX (by omega) (by omega) ?_ | refine zR rfl ?_ | refine acellA ?_ | (apply zL H; (· repeat first | exact .h | apply AtK.t); (· rfl)) | (apply zA H; (· repeat first | exact .h | apply AtK.t)) | (apply zS H; (· repeat first | exact .h | apply AtK.t); (· rfl); (conv => whnf); clear H; intro τ H) | rw [List.length_map]); (refine wX ?_)))
    refine aloop (α := Nat × AHeap) (fun y => [(s37, i64v y.1)]) (fun y => y.2) (fun y => y.1 ≤ d.length ∧ Hp σb (.o r (.cells ((fillN l f d D1 y.1).map byteV)) :: .o ip (.cells (peC (.ms r 1 0 D1.length) is e ig fi)) :: .o is (.cells [spL tk l]) :: G) y.2) (fun y => d.length - y.1)
      (0, τ) ⟨Nat.zero_le _, H⟩ (Sub.refl _) ?_ ?_
    · (refine wX ?_)
      (repeat' first | with_reducible exact EnvLe.refl _ | (refine EnvLe.node ?_ (by first | exact Or.inl rfl | exact Or.inr (Or.inl rfl) | exact Or.inr (Or.inr ⟨nofun, VLe.slice _ _ _⟩)) ?_))
    clear H
    rintro ⟨k, υ⟩ ⟨hk, H⟩
    dsimp only at hk H ⊢
    (refine wX ?_)
    by_cases h : k < d.length
    · (repeat ((first | refine zI (by omega) ?_ | refine zE (by omega) (by omega) ?_ | refine zD (by omega) (by omega) ?_ | refine zY (by omega) ?_ | refine zN (by omega) ?_ | refine amin ?_ | refine amax ?_ | refine zU (by omega) ?_ | refine z8 (by omega) ?_ | refine zX (by omega) (by omega) ?_ | refine zR rfl ?_ | refine acellA ?_ | (apply zL H; (· repeat first | exact .h | apply AtK.t); (· rfl)) | (apply zA H; (· repeat first | exact .h | apply AtK.t)) | (apply zS H; (· repeat first | exact .h | apply AtK.t); (· rfl); (conv => whnf); clear H; intro τ H) | rw [List.length_map]); (refine wX ?_)))
      refine aget (by omega) (get_bytes h) ?_
      (refine wX ?_)
      refine acell rfl ?_
      (refine wX ?_)
      (repeat ((first | refine zI (by omega) ?_ | refine zE (by omega) (by omega) ?_ | refine zD (by omega) (by omega) ?_ | refine zY (by omega) ?_ | refine zN (by omega) ?_ | refine amin ?_ | refine amax ?_ | refine zU (by omega) ?_ | refine z8 (by omega) ?_ | refine zX (by omega) (by omega) ?_ | refine zR rfl ?_ | refine acellA ?_ | (apply zL H; (· repeat first | exact .h | apply AtK.t); (· rfl)) | (apply zA H; (· repeat first | exact .h | apply AtK.t)) | (apply zS H; (· repeat first | exact .h | apply AtK.t); (· rfl); (conv => whnf); clear H; intro τ H) | rw [List.length_map]); (refine wX ?_)))
      refine acall (sHas ((f : Int) + (k : Int), (f : Int) + (k : Int) + 1) (H.get (k := 2) rfl) hl) ?_
      rintro _ σ_ ⟨rfl, e_⟩
      obtain rfl := e_.symm
      refine ⟨?_, Ext.refl _⟩
      (refine wX ?_)
      have hs : fillN l f d D1 (k + 1) = if hasS ((f : Int) + (k : Int), (f : Int) + (k : Int) + 1) l = true then fillN l f d D1 k else (fillN l f d D1 k).set (f + k) (d[k]?.getD 0) := rfl
      rcases (show hasS ((f : Int) + (k : Int), (f : Int) + (k : Int) + 1) l = false ∨ hasS ((f : Int) + (k : Int), (f : Int) + (k : Int) + 1) l = true by cases hasS ((f : Int) + (k : Int), (f : Int) + (k : Int) + 1) l <;> simp) with hh | hh
      · rw [hh, if_neg (by simp)] at hs
        rw [hh]
        (refine wX ?_)
        (repeat ((first | refine zI (by omega) ?_ | refine zE (by omega) (by omega) ?_ | refine zD (by omega) (by omega) ?_ | refine zY (by omega) ?_ | refine zN (by omega) ?_ | refine amin ?_ | refine amax ?_ | refine zU (by omega) ?_ | refine z8 (by omega) ?_ | refine zX (by omega) (by omega) ?_ | refine zR rfl ?_ | refine acellA ?_ | (apply zL H; (· repeat first | exact .h | apply AtK.t); (· rfl)) | (apply zA H; (· repeat first | exact .h | apply AtK.t)) | (apply zS H; (· repeat first | exact .h | apply AtK.t); (· rfl); (conv => whnf); clear H; intro τ H) | rw [List.length_map]); (refine wX ?_)))
        rw [List.getElem?_eq_getElem h, Option.getD_some] at hs
        have e2 : 0 + ((f : Int) + (k : Int)).toNat * 1 = 0 + ((f + k : Nat) : Int).toNat * 1 := by omega
        rw [e2]
        refine row_set H .h (by rw [List.length_map, fillN_len]; omega) rfl ?_
        (conv => whnf)
        clear H
        intro υ H
        rw [← List.map_set, ← hs] at H
        (refine wX ?_)
        (repeat ((first | refine zI (by omega) ?_ | refine zE (by omega) (by omega) ?_ | refine zD (by omega) (by omega) ?_ | refine zY (by omega) ?_ | refine zN (by omega) ?_ | refine amin ?_ | refine amax ?_ | refine zU (by omega) ?_ | refine z8 (by omega) ?_ | refine zX (by omega) (by omega) ?_ | refine zR rfl ?_ | refine acellA ?_ | (apply zL H; (· repeat first | exact .h | apply AtK.t); (· rfl)) | (apply zA H; (· repeat first | exact .h | apply AtK.t)) | (apply zS H; (· repeat first | exact .h | apply AtK.t); (· rfl); (conv => whnf); clear H; intro τ H) | rw [List.length_map]); (refine wX ?_)))
        refine ⟨(k + 1, υ), ⟨h, H⟩, by dsimp only; omega, Sub.refl _, ?_⟩
        (refine wX ?_)
        (repeat' first | with_reducible exact EnvLe.refl _ | (refine EnvLe.node ?_ (by first | exact Or.inl rfl | exact Or.inr (Or.inl rfl) | exact Or.inr (Or.inr ⟨nofun, VLe.slice _ _ _⟩)) ?_))
      · rw [hh, if_pos rfl] at hs
        rw [hh]
        (refine wX ?_)
        (repeat ((first | refine zI (by omega) ?_ | refine zE (by omega) (by omega) ?_ | refine zD (by omega) (by omega) ?_ | refine zY (by omega) ?_ | refine zN (by omega) ?_ | refine amin ?_ | refine amax ?_ | refine zU (by omega) ?_ | refine z8 (by omega) ?_ | refine zX (by omega) (by omega) ?_ | refine zR rfl ?_ | refine acellA ?_ | (apply zL H; (· repeat first | exact .h | apply AtK.t); (· rfl)) | (apply zA H; (· repeat first | exact .h | apply AtK.t)) | (apply zS H; (· repeat first | exact .h | apply AtK.t); (· rfl); (conv => whnf); clear H; intro τ H) | rw [List.length_map]); (refine wX ?_)))
        refine ⟨(k + 1, υ), ⟨h, by rw [hs]; exact H⟩, by dsimp only; omega, Sub.refl _, ?_⟩
        (refine wX ?_)
        (repeat' first | with_reducible exact EnvLe.refl _ | (refine EnvLe.node ?_ (by first | exact Or.inl rfl | exact Or.inr (Or.inl rfl) | exact Or.inr (Or.inr ⟨nofun, VLe.slice _ _ _⟩)) ?_))
    · obtain rfl : k = d.length := by omega
      (repeat ((first | refine zI (by omega) ?_ | refine zE (by omega) (by omega) ?_ | refine zD (by omega) (by omega) ?_ | refine zY (by omega) ?_ | refine zN (by omega) ?_ | refine amin ?_ | refine amax ?_ | refine zU (by omega) ?_ | refine z8 (by omega) ?_ | refine zX (by omega) (by omega) ?_ | refine zR rfl ?_ | refine acellA ?_ | (apply zL H; (· repeat first | exact .h | apply AtK.t); (· rfl)) | (apply zA H; (· repeat first | exact .h | apply AtK.t)) | (apply zS H; (· repeat first | exact .h | apply AtK.t); (· rfl); (conv => whnf); clear H; intro τ H) | rw [List.length_map]); (refine wX ?_)))
      refine aret (VLe.refl _) (Sub.refl _) ⟨rfl, .ms r 1 0 D1.length, [.o r (.cells ((fillN l f d D1 d.length).map byteV))], ?_, H⟩
      have := RB.row r (fillN l f d D1 d.length) (fun h => by have := fillN_len l f d D1 d.length; rw [h] at this; simp at this; omega)
      rw [fillN_len] at this
      exact this
end
end Go.Proofs.Ytgobbmdbkmjlnaa
/-
  What came in parts: may a packet come; where fields begin and end is noted.
-/
namespace Go.Proofs.Ytgobbmdbkmjlnaa
set_option linter.unusedVariables false
set_option linter.unusedSimpArgs false
set_option maxRecDepth 20000
open Go Go.Am

set_option maxHeartbeats 2000000 in
theorem buRight (p : Pk) (σ : AHeap) (hl : p.fs.length ≤ 1000) (ht : total p.fs ≤ 140737488355328) : ACalls Try.prog i_rxbuf_right [amV p] σ fun v σ' => v = boolv (rightB p) ∧ σ' = σ := by
  refine k_rxbuf_right rfl ?_
  have H := Hp.nil σ
  (refine wX ?_)
  refine hnew H rfl ?_
  clear H
  intro i1 τ H
  (refine wX ?_)
  (repeat ((first | refine zI (by omega) ?_ | refine zE (by omega) (by omega) ?_ | refine zD (by omega) (by omega) ?_ | refine zY (by omega) ?_ | refine zN (by omega) ?_ | refine amin ?_ | refine amax ?_ | refine zU (by omega) ?_ | refine z8 (by omega) ?_ | refine zX (by omega) (by omega) ?_ | refine zR rfl ?_ | refine acellA ?_ | (apply zL H; (· repeat first | exact .h | apply AtK.t); (· rfl)) | (apply zA H; (· repeat first | exact .h | apply AtK.t)) | (apply zS H; (· repeat first | exact .h | apply AtK.t); (· rfl); (conv => whnf); clear H; intro τ H) | rw [List.length_map]); (refine wX ?_)))
  unfold rightB
  have no : ∀ {x : Bool}, x = true → (!x && (decide (0 ≤ p.off) && decide (p.off ≤ 4000) && (p.part || decide (p.off = 0)) && decide ((total p.fs : Int) ≤ 4000 - p.off))) = false := fun h => by rw [h]; rfl
  by_cases a1 : p.fs.length < 1
  · rw [no (by rw [decide_eq_true a1]; rfl)]
    (repeat ((first | refine zI (by omega) ?_ | refine zE (by omega) (by omega) ?_ | refine zD (by omega) (by omega) ?_ | refine zY (by omega) ?_ | refine zN (by omega) ?_ | refine amin ?_ | refine amax ?_ | refine zU (by omega) ?_ | refine z8 (by omega) ?_ | refine zX (by omega) (by omega) ?_ | refine zR rfl ?_ | refine acellA ?_ | (apply zL H; (· repeat first | exact .h | apply AtK.t); (· rfl)) | (apply zA H; (· repeat first | exact .h | apply AtK.t)) | (apply zS H; (· repeat first | exact .h | apply AtK.t); (· rfl); (conv => whnf); clear H; intro τ H) | rw [List.length_map]); (refine wX ?_)))
    exact aret (VLe.refl _) H.sub ⟨rfl, rfl⟩
  (repeat ((first | refine zI (by omega) ?_ | refine zE (by omega) (by omega) ?_ | refine zD (by omega) (by omega) ?_ | refine zY (by omega) ?_ | refine zN (by omega) ?_ | refine amin ?_ | refine amax ?_ | refine zU (by omega) ?_ | refine z8 (by omega) ?_ | refine zX (by omega) (by omega) ?_ | refine zR rfl ?_ | refine acellA ?_ | (apply zL H; (· repeat first | exact .h | apply AtK.t); (· rfl)) | (apply zA H; (· repeat first | exact .h | apply AtK.t)) | (apply zS H; (· repeat first | exact .h | apply AtK.t); (· rfl); (conv => whnf); clear H; intro τ H) | rw [List.length_map]); (refine wX ?_)))
  by_cases a2 : p.fs.length > 24
  · rw [no (by rw [decide_eq_true a2]; simp)]
    (repeat ((first | refine zI (by omega) ?_ | refine zE (by omega) (by omega) ?_ | refine zD (by omega) (by omega) ?_ | refine zY (by omega) ?_ | refine zN (by omega) ?_ | refine amin ?_ | refine amax ?_ | refine zU (by omega) ?_ | refine z8 (by omega) ?_ | refine zX (by omega) (by omega) ?_ | refine zR rfl ?_ | refine acellA ?_ | (apply zL H; (· repeat first | exact .h | apply AtK.t); (· rfl)) | (apply zA H; (· repeat first | exact .h | apply AtK.t)) | (apply zS H; (· repeat first | exact .h | apply AtK.t); (· rfl); (conv => whnf); clear H; intro τ H) | rw [List.length_map]); (refine wX ?_)))
    exact aret (VLe.refl _) H.sub ⟨rfl, rfl⟩
  (repeat ((first | refine zI (by omega) ?_ | refine zE (by omega) (by omega) ?_ | refine zD (by omega) (by omega) ?_ | refine zY (by omega) ?_ | refine zN (by omega) ?_ | refine amin ?_ | refine amax ?_ | refine zU (by omega) ?_ | refine z8 (by omega) ?_ | refine zX (by omega) (by omega) ?_ | refine zR rfl ?_ | refine acellA ?_ | (apply zL H; (· repeat first | exact .h | apply AtK.t); (· rfl)) | (apply zA H; (· repeat first | exact .h | apply AtK.t)) | (apply zS H; (· repeat first | exact .h | apply AtK.t); (· rfl); (conv => whnf); clear H; intro τ H) | rw [List.length_map]); (refine wX ?_)))
  refine acall (buContains p.fs .none τ (by omega)) ?_
  rintro _ σ_ ⟨rfl, e_⟩
  obtain rfl := e_.symm
  refine ⟨?_, Ext.refl _⟩
  (refine wX ?_)
  rcases (show hollowB p.fs = false ∨ hollowB p.fs = true by cases hollowB p.fs <;> simp) with a3 | a3
  rotate_left
  · rw [no (by rw [a3]; simp), a3]
    (refine wX ?_)
    (repeat ((first | refine zI (by omega) ?_ | refine zE (by omega) (by omega) ?_ | refine zD (by omega) (by omega) ?_ | refine zY (by omega) ?_ | refine zN (by omega) ?_ | refine amin ?_ | refine amax ?_ | refine zU (by omega) ?_ | refine z8 (by omega) ?_ | refine zX (by omega) (by omega) ?_ | refine zR rfl ?_ | refine acellA ?_ | (apply zL H; (· repeat first | exact .h | apply AtK.t); (· rfl)) | (apply zA H; (· repeat first | exact .h | apply AtK.t)) | (apply zS H; (· repeat first | exact .h | apply AtK.t); (· rfl); (conv => whnf); clear H; intro τ H) | rw [List.length_map]); (refine wX ?_)))
    exact aret (VLe.refl _) H.sub ⟨rfl, rfl⟩
  rw [a3]
  (refine wX ?_)
  (repeat ((first | refine zI (by omega) ?_ | refine zE (by omega) (by omega) ?_ | refine zD (by omega) (by omega) ?_ | refine zY (by omega) ?_ | refine zN (by omega) ?_ | refine amin ?_ | refine amax ?_ | refine zU (by omega) ?_ | refine z8 (by omega) ?_ | refine zX (by omega) (by omega) ?_ | refine zR rfl ?_ | refine acellA ?_ | (apply zL H; (· repeat first | exact .h | apply AtK.t); (· rfl)) | (apply zA H; (· repeat first | exact .h | apply AtK.t)) | (apply zS H; (· repeat first | exact .h | apply AtK.t); (· rfl); (conv => whnf); clear H; intro τ H) | rw [List.length_map]); (refine wX ?_)))
  by_cases a4 : p.fi < 0
  · rw [no (by rw [decide_eq_true a4]; simp)]
    (repeat ((first | refine zI (by omega) ?_ | refine zE (by omega) (by omega) ?_ | refine zD (by omega) (by omega) ?_ | refine zY (by omega) ?_ | refine zN (by omega) ?_ | refine amin ?_ | refine amax ?_ | refine zU (by omega) ?_ | refine z8 (by omega) ?_ | refine zX (by omega) (by omega) ?_ | refine zR rfl ?_ | refine acellA ?_ | (apply zL H; (· repeat first | exact .h | apply AtK.t); (· rfl)) | (apply zA H; (· repeat first | exact .h | apply AtK.t)) | (apply zS H; (· repeat first | exact .h | apply AtK.t); (· rfl); (conv => whnf); clear H; intro τ H) | rw [List.length_map]); (refine wX ?_)))
    exact aret (VLe.refl _) H.sub ⟨rfl, rfl⟩
  (repeat ((first | refine zI (by omega) ?_ | refine zE (by omega) (by omega) ?_ | refine zD (by omega) (by omega) ?_ | refine zY (by omega) ?_ | refine zN (by omega) ?_ | refine amin ?_ | refine amax ?_ | refine zU (by omega) ?_ | refine z8 (by omega) ?_ | refine zX (by omega) (by omega) ?_ | refine zR rfl ?_ | refine acellA ?_ | (apply zL H; (· repeat first | exact .h | apply AtK.t); (· rfl)) | (apply zA H; (· repeat first | exact .h | apply AtK.t)) | (apply zS H; (· repeat first | exact .h | apply AtK.t); (· rfl); (conv => whnf); clear H; intro τ H) | rw [List.length_map]); (refine wX ?_)))
  by_cases a5 : p.fi > 3
  · rw [no (by rw [decide_eq_true a5]; simp)]
    (repeat ((first | refine zI (by omega) ?_ | refine zE (by omega) (by omega) ?_ | refine zD (by omega) (by omega) ?_ | refine zY (by omega) ?_ | refine zN (by omega) ?_ | refine amin ?_ | refine amax ?_ | refine zU (by omega) ?_ | refine z8 (by omega) ?_ | refine zX (by omega) (by omega) ?_ | refine zR rfl ?_ | refine acellA ?_ | (apply zL H; (· repeat first | exact .h | apply AtK.t); (· rfl)) | (apply zA H; (· repeat first | exact .h | apply AtK.t)) | (apply zS H; (· repeat first | exact .h | apply AtK.t); (· rfl); (conv => whnf); clear H; intro τ H) | rw [List.length_map]); (refine wX ?_)))
    exact aret (VLe.refl _) H.sub ⟨rfl, rfl⟩
  (repeat ((first | refine zI (by omega) ?_ | refine zE (by omega) (by omega) ?_ | refine zD (by omega) (by omega) ?_ | refine zY (by omega) ?_ | refine zN (by omega) ?_ | refine amin ?_ | refine amax ?_ | refine zU (by omega) ?_ | refine z8 (by omega) ?_ | refine zX (by omega) (by omega) ?_ | refine zR rfl ?_ | refine acellA ?_ | (apply zL H; (· repeat first | exact .h | apply AtK.t); (· rfl)) | (apply zA H; (· repeat first | exact .h | apply AtK.t)) | (apply zS H; (· repeat first | exact .h | apply AtK.t); (· rfl); (conv => whnf); clear H; intro τ H) | rw [List.length_map]); (refine wX ?_)))
  rw [decide_eq_false a1, decide_eq_false a2, decide_eq_false a4, decide_eq_false a5, show (!(false || false || false || false || false)) = true from rfl, Bool.true_and]
  by_cases q1 : 0 ≤ p.off
  case neg =>
    rw [decide_eq_false q1]
    (repeat ((first | refine zI (by omega) ?_ | refine zE (by omega) (by omega) ?_ | refine zD (by omega) (by omega) ?_ | refine zY (by omega) ?_ | refine zN (by omega) ?_ | refine amin ?_ | refine amax ?_ | refine zU (by omega) ?_ | refine z8 (by omega) ?_ | refine zX (by omega) (by omega) ?_ | refine zR rfl ?_ | refine acellA ?_ | (apply zL H; (· repeat first | exact .h | apply AtK.t); (· rfl)) | (apply zA H; (· repeat first | exact .h | apply AtK.t)) | (apply zS H; (· repeat first | exact .h | apply AtK.t); (· rfl); (conv => whnf); clear H; intro τ H) | rw [List.length_map]); (refine wX ?_)))
    exact aret (VLe.refl _) H.sub ⟨rfl, rfl⟩
  rw [decide_eq_true q1]
  (repeat ((first | refine zI (by omega) ?_ | refine zE (by omega) (by omega) ?_ | refine zD (by omega) (by omega) ?_ | refine zY (by omega) ?_ | refine zN (by omega) ?_ | refine amin ?_ | refine amax ?_ | refine zU (by omega) ?_ | refine z8 (by omega) ?_ | refine zX (by omega) (by omega) ?_ | refine zR rfl ?_ | refine acellA ?_ | (apply zL H; (· repeat first | exact .h | apply AtK.t); (· rfl)) | (apply zA H; (· repeat first | exact .h | apply AtK.t)) | (apply zS H; (· repeat first | exact .h | apply AtK.t); (· rfl); (conv => whnf); clear H; intro τ H) | rw [List.length_map]); (refine wX ?_)))
  by_cases q2 : p.off ≤ 4000
  case neg =>
    rw [decide_eq_false q2]
    (repeat ((first | refine zI (by omega) ?_ | refine zE (by omega) (by omega) ?_ | refine zD (by omega) (by omega) ?_ | refine zY (by omega) ?_ | refine zN (by omega) ?_ | refine amin ?_ | refine amax ?_ | refine zU (by omega) ?_ | refine z8 (by omega) ?_ | refine zX (by omega) (by omega) ?_ | refine zR rfl ?_ | refine acellA ?_ | (apply zL H; (· repeat first | exact .h | apply AtK.t); (· rfl)) | (apply zA H; (· repeat first | exact .h | apply AtK.t)) | (apply zS H; (· repeat first | exact .h | apply AtK.t); (· rfl); (conv => whnf); clear H; intro τ H) | rw [List.length_map]); (refine wX ?_)))
    exact aret (VLe.refl _) H.sub ⟨rfl, rfl⟩
  rw [decide_eq_true q2]
  (repeat ((first | refine zI (by omega) ?_ | refine zE (by omega) (by omega) ?_ | refine zD (by omega) (by omega) ?_ | refine zY (by omega) ?_ | refine zN (by omega) ?_ | refine amin ?_ | refine amax ?_ | refine zU (by omega) ?_ | refine z8 (by omega) ?_ | refine zX (by omega) (by omega) ?_ | refine zR rfl ?_ | refine acellA ?_ | (apply zL H; (· repeat first | exact .h | apply AtK.t); (· rfl)) | (apply zA H; (· repeat first | exact .h | apply AtK.t)) | (apply zS H; (· repeat first | exact .h | apply AtK.t); (· rfl); (conv => whnf); clear H; intro τ H) | rw [List.length_map]); (refine wX ?_)))
  rcases (show p.part = false ∨ p.part = true by cases p.part <;> simp) with q3 | q3
  · refine abr_false q3 ?_
    rw [q3]
    (refine wX ?_)
    (repeat ((first | refine zI (by omega) ?_ | refine zE (by omega) (by omega) ?_ | refine zD (by omega) (by omega) ?_ | refine zY (by omega) ?_ | refine zN (by omega) ?_ | refine amin ?_ | refine amax ?_ | refine zU (by omega) ?_ | refine z8 (by omega) ?_ | refine zX (by omega) (by omega) ?_ | refine zR rfl ?_ | refine acellA ?_ | (apply zL H; (· repeat first | exact .h | apply AtK.t); (· rfl)) | (apply zA H; (· repeat first | exact .h | apply AtK.t)) | (apply zS H; (· repeat first | exact .h | apply AtK.t); (· rfl); (conv => whnf); clear H; intro τ H) | rw [List.length_map]); (refine wX ?_)))
    by_cases q4 : p.off = 0
    case neg =>
      rw [decide_eq_false q4]
      (refine wX ?_)
      (repeat ((first | refine zI (by omega) ?_ | refine zE (by omega) (by omega) ?_ | refine zD (by omega) (by omega) ?_ | refine zY (by omega) ?_ | refine zN (by omega) ?_ | refine amin ?_ | refine amax ?_ | refine zU (by omega) ?_ | refine z8 (by omega) ?_ | refine zX (by omega) (by omega) ?_ | refine zR rfl ?_ | refine acellA ?_ | (apply zL H; (· repeat first | exact .h | apply AtK.t); (· rfl)) | (apply zA H; (· repeat first | exact .h | apply AtK.t)) | (apply zS H; (· repeat first | exact .h | apply AtK.t); (· rfl); (conv => whnf); clear H; intro τ H) | rw [List.length_map]); (refine wX ?_)))
      exact aret (VLe.refl _) H.sub ⟨rfl, rfl⟩
    rw [decide_eq_true q4]
    (refine wX ?_)
    (repeat ((first | refine zI (by omega) ?_ | refine zE (by omega) (by omega) ?_ | refine zD (by omega) (by omega) ?_ | refine zY (by omega) ?_ | refine zN (by omega) ?_ | refine amin ?_ | refine amax ?_ | refine zU (by omega) ?_ | refine z8 (by omega) ?_ | refine zX (by omega) (by omega) ?_ | refine zR rfl ?_ | refine acellA ?_ | (apply zL H; (· repeat first | exact .h | apply AtK.t); (· rfl)) | (apply zA H; (· repeat first | exact .h | apply AtK.t)) | (apply zS H; (· repeat first | exact .h | apply AtK.t); (· rfl); (conv => whnf); clear H; intro τ H) | rw [List.length_map]); (refine wX ?_)))
    refine acall (aData p τ hl ht) ?_
    rintro _ σ_ ⟨rfl, e_⟩
    obtain rfl := e_.symm
    refine ⟨?_, Ext.refl _⟩
    (refine wX ?_)
    (repeat ((first | refine zI (by omega) ?_ | refine zE (by omega) (by omega) ?_ | refine zD (by omega) (by omega) ?_ | refine zY (by omega) ?_ | refine zN (by omega) ?_ | refine amin ?_ | refine amax ?_ | refine zU (by omega) ?_ | refine z8 (by omega) ?_ | refine zX (by omega) (by omega) ?_ | refine zR rfl ?_ | refine acellA ?_ | (apply zL H; (· repeat first | exact .h | apply AtK.t); (· rfl)) | (apply zA H; (· repeat first | exact .h | apply AtK.t)) | (apply zS H; (· repeat first | exact .h | apply AtK.t); (· rfl); (conv => whnf); clear H; intro τ H) | rw [List.length_map]); (refine wX ?_)))
    exact aret (VLe.refl _) H.sub ⟨by unfold total; simp, rfl⟩
  · refine abr_true q3 ?_
    rw [q3]
    (refine wX ?_)
    (repeat ((first | refine zI (by omega) ?_ | refine zE (by omega) (by omega) ?_ | refine zD (by omega) (by omega) ?_ | refine zY (by omega) ?_ | refine zN (by omega) ?_ | refine amin ?_ | refine amax ?_ | refine zU (by omega) ?_ | refine z8 (by omega) ?_ | refine zX (by omega) (by omega) ?_ | refine zR rfl ?_ | refine acellA ?_ | (apply zL H; (· repeat first | exact .h | apply AtK.t); (· rfl)) | (apply zA H; (· repeat first | exact .h | apply AtK.t)) | (apply zS H; (· repeat first | exact .h | apply AtK.t); (· rfl); (conv => whnf); clear H; intro τ H) | rw [List.length_map]); (refine wX ?_)))
    refine acall (aData p τ hl ht) ?_
    rintro _ σ_ ⟨rfl, e_⟩
    obtain rfl := e_.symm
    refine ⟨?_, Ext.refl _⟩
    (refine wX ?_)
    (repeat ((first | refine zI (by omega) ?_ | refine zE (by omega) (by omega) ?_ | refine zD (by omega) (by omega) ?_ | refine zY (by omega) ?_ | refine zN (by omega) ?_ | refine amin ?_ | refine amax ?_ | refine zU (by omega) ?_ | refine z8 (by omega) ?_ | refine zX (by omega) (by omega) ?_ | refine zR rfl ?_ | refine acellA ?_ | (apply zL H; (· repeat first | exact .h | apply AtK.t); (· rfl)) | (apply zA H; (· repeat first | exact .h | apply AtK.t)) | (apply zS H; (· repeat first | exact .h | apply AtK.t); (· rfl); (conv => whnf); clear H; intro τ H) | rw [List.length_map]); (refine wX ?_)))
    exact aret (VLe.refl _) H.sub ⟨by unfold total; simp, rfl⟩

/-- Where fields begin and end. -/
abbrev trueV : AVal := boolv true
def note1 (p : Pk) (em : List (Int × AVal)) : List (Int × AVal) := if p.off = 0 then em else if bitsOp .and .i64 p.fi 2 = 0 then mapSet em p.off trueV else em
def noteN (p : Pk) (em : List (Int × AVal)) : Nat → List (Int × AVal)
  | 0 => em
  | k + 1 => if k > 0 then mapSet (noteN p em k) (p.off + (total (p.fs.take k) : Int)) trueV else noteN p em k
def noteM (p : Pk) (ends : Bool) (em : List (Int × AVal)) : List (Int × AVal) :=
  if ends = true then noteN p (note1 p em) p.fs.length else if bitsOp .and .i64 p.fi 1 = 0 then mapSet (noteN p (note1 p em) p.fs.length) (p.off + (total p.fs : Int)) trueV else noteN p (note1 p em) p.fs.length
def noteF1 (p : Pk) (fi : Int) : Int := if p.off = 0 then bitsOp .or .i64 fi (bitsOp .and .i64 p.fi 2) else fi
def noteF (p : Pk) (ends : Bool) (fi : Int) : Int := if ends = true then bitsOp .or .i64 (noteF1 p fi) (bitsOp .and .i64 p.fi 1) else noteF1 p fi
def noteE (p : Pk) (ends : Bool) (e : Int) : Int := if ends = true then p.off + (total p.fs : Int) else e

section
variable {σb σ : AHeap} {ip is ig : Nat} {e fi : Int} {l : List Sp} {tk : Tok} {v : AVal} {em : List (Int × AVal)} {G : List HE}
set_option maxHeartbeats 2000000 in
theorem peNote (H : Hp σb (.o ip (.cells (peC v is e ig fi)) :: .o ig (.map em) :: G) σ) (hv : v.isCell = true) (p : Pk) (ends : Bool) (ho : 0 ≤ p.off ∧ p.off ≤ 1000000) (hn : p.fs.length ≤ 1000) (ht : total p.fs ≤ 1000000) :
    ACalls Try.prog i_rxbuf_piece_note [.ptr ip 0, amV p, boolv ends] σ fun r σ' => r = .tup [] ∧ Hp σb (.o ip (.cells (peC v is (noteE p ends e) ig (noteF p ends fi))) :: .o ig (.map (noteM p ends em)) :: G) σ' := by
  refine k_rxbuf_piece_note rfl ?_
  (refine wX ?_)
  refine hnew H rfl ?_
  clear H
  intro i4 τ H
  (refine wX ?_)
  (repeat ((first | refine zI (by omega) ?_ | refine zE (by omega) (by omega) ?_ | refine zD (by omega) (by omega) ?_ | refine zY (by omega) ?_ | refine zN (by omega) ?_ | refine amin ?_ | refine amax ?_ | refine zU (by omega) ?_ | refine z8 (by omega) ?_ | refine zX (by omega) (by omega) ?_ | refine zR rfl ?_ | refine acellA ?_ | (apply zL H; (· repeat first | exact .h | apply AtK.t); (· rfl)) | (apply zA H; (· repeat first | exact .h | apply AtK.t)) | (apply zS H; (· repeat first | exact .h | apply AtK.t); (· rfl); (conv => whnf); clear H; intro τ H) | rw [List.length_map]); (refine wX ?_)))
  unfold noteE noteF noteM
  obtain ⟨m1, hm1⟩ : ∃ m1, m1 = note1 p em := ⟨_, rfl⟩
  rw [← hm1]
  have hat : ∀ k, total (p.fs.take k) ≤ 1000000 := fun k => Nat.le_trans (total_take_le _ _) ht
  by_cases h0 : p.off = 0
  case' pos =>
    have e1 : m1 = em := by rw [hm1]; unfold note1; rw [if_pos h0]
    have e2 : noteF1 p fi = bitsOp .or .i64 fi (bitsOp .and .i64 p.fi 2) := by unfold noteF1; rw [if_pos h0]
    rw [e2]
    (repeat ((first | refine zI (by omega) ?_ | refine zE (by omega) (by omega) ?_ | refine zD (by omega) (by omega) ?_ | refine zY (by omega) ?_ | refine zN (by omega) ?_ | refine amin ?_ | refine amax ?_ | refine zU (by omega) ?_ | refine z8 (by omega) ?_ | refine zX (by omega) (by omega) ?_ | refine zR rfl ?_ | refine acellA ?_ | (apply zL H; (· repeat first | exact .h | apply AtK.t); (· rfl)) | (apply zA H; (· repeat first | exact .h | apply AtK.t)) | (apply zS H; (· repeat first | exact .h | apply AtK.t); (· rfl); (conv => whnf); clear H; intro τ H) | rw [List.length_map]); (refine wX ?_)))
    refine abits_eq rfl ?_
    (refine wX ?_)
    (repeat ((first | refine zI (by omega) ?_ | refine zE (by omega) (by omega) ?_ | refine zD (by omega) (by omega) ?_ | refine zY (by omega) ?_ | refine zN (by omega) ?_ | refine amin ?_ | refine amax ?_ | refine zU (by omega) ?_ | refine z8 (by omega) ?_ | refine zX (by omega) (by omega) ?_ | refine zR rfl ?_ | refine acellA ?_ | (apply zL H; (· repeat first | exact .h | apply AtK.t); (· rfl)) | (apply zA H; (· repeat first | exact .h | apply AtK.t)) | (apply zS H; (· repeat first | exact .h | apply AtK.t); (· rfl); (conv => whnf); clear H; intro τ H) | rw [List.length_map]); (refine wX ?_)))
    refine abits_eq rfl ?_
    (refine wX ?_)
    (repeat ((first | refine zI (by omega) ?_ | refine zE (by omega) (by omega) ?_ | refine zD (by omega) (by omega) ?_ | refine zY (by omega) ?_ | refine zN (by omega) ?_ | refine amin ?_ | refine amax ?_ | refine zU (by omega) ?_ | refine z8 (by omega) ?_ | refine zX (by omega) (by omega) ?_ | refine zR rfl ?_ | refine acellA ?_ | (apply zL H; (· repeat first | exact .h | apply AtK.t); (· rfl)) | (apply zA H; (· repeat first | exact .h | apply AtK.t)) | (apply zS H; (· repeat first | exact .h | apply AtK.t); (· rfl); (conv => whnf); clear H; intro τ H) | rw [List.length_map]); (refine wX ?_)))
    rw [← e1] at H
    clear e1 e2
    generalize bitsOp .or .i64 fi (bitsOp .and .i64 p.fi 2) = fi1 at *
  case' neg =>
    have e2 : noteF1 p fi = fi := by unfold noteF1; rw [if_neg h0]
    rw [e2]
    (repeat ((first | refine zI (by omega) ?_ | refine zE (by omega) (by omega) ?_ | refine zD (by omega) (by omega) ?_ | refine zY (by omega) ?_ | refine zN (by omega) ?_ | refine amin ?_ | refine amax ?_ | refine zU (by omega) ?_ | refine z8 (by omega) ?_ | refine zX (by omega) (by omega) ?_ | refine zR rfl ?_ | refine acellA ?_ | (apply zL H; (· repeat first | exact .h | apply AtK.t); (· rfl)) | (apply zA H; (· repeat first | exact .h | apply AtK.t)) | (apply zS H; (· repeat first | exact .h | apply AtK.t); (· rfl); (conv => whnf); clear H; intro τ H) | rw [List.length_map]); (refine wX ?_)))
    refine abits_eq rfl ?_
    (refine wX ?_)
    (repeat ((first | refine zI (by omega) ?_ | refine zE (by omega) (by omega) ?_ | refine zD (by omega) (by omega) ?_ | refine zY (by omega) ?_ | refine zN (by omega) ?_ | refine amin ?_ | refine amax ?_ | refine zU (by omega) ?_ | refine z8 (by omega) ?_ | refine zX (by omega) (by omega) ?_ | refine zR rfl ?_ | refine acellA ?_ | (apply zL H; (· repeat first | exact .h | apply AtK.t); (· rfl)) | (apply zA H; (· repeat first | exact .h | apply AtK.t)) | (apply zS H; (· repeat first | exact .h | apply AtK.t); (· rfl); (conv => whnf); clear H; intro τ H) | rw [List.length_map]); (refine wX ?_)))
    by_cases hb : bitsOp .and .i64 p.fi 2 = 0
    case' pos =>
      have e1 : m1 = mapSet em p.off trueV := by rw [hm1]; unfold note1; rw [if_neg h0, if_pos hb]
      (repeat ((first | refine zI (by omega) ?_ | refine zE (by omega) (by omega) ?_ | refine zD (by omega) (by omega) ?_ | refine zY (by omega) ?_ | refine zN (by omega) ?_ | refine amin ?_ | refine amax ?_ | refine zU (by omega) ?_ | refine z8 (by omega) ?_ | refine zX (by omega) (by omega) ?_ | refine zR rfl ?_ | refine acellA ?_ | (apply zL H; (· repeat first | exact .h | apply AtK.t); (· rfl)) | (apply zA H; (· repeat first | exact .h | apply AtK.t)) | (apply zS H; (· repeat first | exact .h | apply AtK.t); (· rfl); (conv => whnf); clear H; intro τ H) | rw [List.length_map]); (refine wX ?_)))
      apply zMs H
      · (repeat first | exact .h | apply AtK.t)
      · rfl
      (conv => whnf)
      clear H
      intro τ H
      (refine wX ?_)
      rw [← e1] at H
      clear e1 e2
      generalize fi = fi1 at *
    case' neg =>
      have e1 : m1 = em := by rw [hm1]; unfold note1; rw [if_neg h0, if_neg hb]
      (repeat ((first | refine zI (by omega) ?_ | refine zE (by omega) (by omega) ?_ | refine zD (by omega) (by omega) ?_ | refine zY (by omega) ?_ | refine zN (by omega) ?_ | refine amin ?_ | refine amax ?_ | refine zU (by omega) ?_ | refine z8 (by omega) ?_ | refine zX (by omega) (by omega) ?_ | refine zR rfl ?_ | refine acellA ?_ | (apply zL H; (· repeat first | exact .h | apply AtK.t); (· rfl)) | (apply zA H; (· repeat first | exact .h | apply AtK.t)) | (apply zS H; (· repeat first | exact .h | apply AtK.t); (· rfl); (conv => whnf); clear H; intro τ H) | rw [List.length_map]); (refine wX ?_)))
      rw [← e1] at H
      clear e1 e2
      generalize fi = fi1 at *
  all_goals
    (repeat ((first | refine zI (by omega) ?_ | refine zE (by omega) (by omega) ?_ | refine zD (by omega) (by omega) ?_ | refine zY (by omega) ?_ | refine zN (by omega) ?_ | refine amin ?_ | refine amax ?_ | refine zU (by omega) ?_ | refine z8 (by omega) ?_ | refine zX (by omega) (by omega) ?_ | refine zR rfl ?_ | refine acellA ?_ | (apply zL H; (· repeat first | exact .h | apply AtK.t); (· rfl)) | (apply zA H; (· repeat first | exact .h | apply AtK.t)) | (apply zS H; (· repeat first | exact .h | apply AtK.t); (· rfl); (conv => whnf); clear H; intro τ H) | rw [List.length_map]); (refine wX ?_)))
    refine aloop (α := Nat × AHeap) (fun y => [(s35, i64v y.1), (s6, i64v (p.off + (total (p.fs.take y.1) : Int)))]) (fun y => y.2) (fun y => y.1 ≤ p.fs.length ∧ Hp σb (.o i4 (.cells (amC p)) :: .o ip (.cells (peC v is e ig fi1)) :: .o ig (.map (noteN p m1 y.1)) :: G) y.2) (fun y => p.fs.length - y.1)
      (0, τ) ⟨Nat.zero_le _, H⟩ (Sub.refl _) ?_ ?_
    · (refine wX ?_)
      rw [show p.off + (total (p.fs.take 0) : Int) = p.off by rw [List.take_zero]; show p.off + ((0 : Nat) : Int) = _; omega]
      (repeat' first | with_reducible exact EnvLe.refl _ | (refine EnvLe.node ?_ (by first | exact Or.inl rfl | exact Or.inr (Or.inl rfl) | exact Or.inr (Or.inr ⟨nofun, VLe.slice _ _ _⟩)) ?_))
    clear H
    rintro ⟨k, υ⟩ ⟨hk, H⟩
    dsimp only at hk H ⊢
    have hak := hat k
    (refine wX ?_)
    by_cases h : k < p.fs.length
    · (repeat ((first | refine zI (by omega) ?_ | refine zE (by omega) (by omega) ?_ | refine zD (by omega) (by omega) ?_ | refine zY (by omega) ?_ | refine zN (by omega) ?_ | refine amin ?_ | refine amax ?_ | refine zU (by omega) ?_ | refine z8 (by omega) ?_ | refine zX (by omega) (by omega) ?_ | refine zR rfl ?_ | refine acellA ?_ | (apply zL H; (· repeat first | exact .h | apply AtK.t); (· rfl)) | (apply zA H; (· repeat first | exact .h | apply AtK.t)) | (apply zS H; (· repeat first | exact .h | apply AtK.t); (· rfl); (conv => whnf); clear H; intro τ H) | rw [List.length_map]); (refine wX ?_)))
      refine aget (by omega) (get_lists h) ?_
      (refine wX ?_)
      refine acell rfl ?_
      (refine wX ?_)
      (repeat ((first | refine zI (by omega) ?_ | refine zE (by omega) (by omega) ?_ | refine zD (by omega) (by omega) ?_ | refine zY (by omega) ?_ | refine zN (by omega) ?_ | refine amin ?_ | refine amax ?_ | refine zU (by omega) ?_ | refine z8 (by omega) ?_ | refine zX (by omega) (by omega) ?_ | refine zR rfl ?_ | refine acellA ?_ | (apply zL H; (· repeat first | exact .h | apply AtK.t); (· rfl)) | (apply zA H; (· repeat first | exact .h | apply AtK.t)) | (apply zS H; (· repeat first | exact .h | apply AtK.t); (· rfl); (conv => whnf); clear H; intro τ H) | rw [List.length_map]); (refine wX ?_)))
      have hs : noteN p m1 (k + 1) = if k > 0 then mapSet (noteN p m1 k) (p.off + (total (p.fs.take k) : Int)) trueV else noteN p m1 k := rfl
      have hal := hat (k + 1)
      have hts := total_take_succ p.fs k h
      by_cases h0 : k > 0
      case' pos =>
        rw [if_pos h0] at hs
        (repeat ((first | refine zI (by omega) ?_ | refine zE (by omega) (by omega) ?_ | refine zD (by omega) (by omega) ?_ | refine zY (by omega) ?_ | refine zN (by omega) ?_ | refine amin ?_ | refine amax ?_ | refine zU (by omega) ?_ | refine z8 (by omega) ?_ | refine zX (by omega) (by omega) ?_ | refine zR rfl ?_ | refine acellA ?_ | (apply zL H; (· repeat first | exact .h | apply AtK.t); (· rfl)) | (apply zA H; (· repeat first | exact .h | apply AtK.t)) | (apply zS H; (· repeat first | exact .h | apply AtK.t); (· rfl); (conv => whnf); clear H; intro τ H) | rw [List.length_map]); (refine wX ?_)))
        apply zMs H
        · (repeat first | exact .h | apply AtK.t)
        · rfl
        (conv => whnf)
        clear H
        intro τ H
        (refine wX ?_)
        rw [← hs] at H
      case' neg =>
        rw [if_neg h0] at hs
        rw [← hs] at H
      all_goals
        (repeat ((first | refine zI (by omega) ?_ | refine zE (by omega) (by omega) ?_ | refine zD (by omega) (by omega) ?_ | refine zY (by omega) ?_ | refine zN (by omega) ?_ | refine amin ?_ | refine amax ?_ | refine zU (by omega) ?_ | refine z8 (by omega) ?_ | refine zX (by omega) (by omega) ?_ | refine zR rfl ?_ | refine acellA ?_ | (apply zL H; (· repeat first | exact .h | apply AtK.t); (· rfl)) | (apply zA H; (· repeat first | exact .h | apply AtK.t)) | (apply zS H; (· repeat first | exact .h | apply AtK.t); (· rfl); (conv => whnf); clear H; intro τ H) | rw [List.length_map]); (refine wX ?_)))
        rw [show p.off + (total (p.fs.take k) : Int) + (p.fs[k].length : Int) = p.off + (total (p.fs.take (k + 1)) : Int) by omega]
        first
          | (refine ⟨(k + 1, υ), ⟨h, H⟩, by dsimp only; omega, Sub.refl _, ?_⟩; (refine wX ?_); (repeat' first | with_reducible exact EnvLe.refl _ | (refine EnvLe.node ?_ (by first | exact Or.inl rfl | exact Or.inr (Or.inl rfl) | exact Or.inr (Or.inr ⟨nofun, VLe.slice _ _ _⟩)) ?_)))
          | (refine ⟨(k + 1, τ), ⟨h, H⟩, by dsimp only; omega, Sub.refl _, ?_⟩; (refine wX ?_); (repeat' first | with_reducible exact EnvLe.refl _ | (refine EnvLe.node ?_ (by first | exact Or.inl rfl | exact Or.inr (Or.inl rfl) | exact Or.inr (Or.inr ⟨nofun, VLe.slice _ _ _⟩)) ?_)))
    · obtain rfl : k = p.fs.length := by omega
      rw [List.take_length]
      rw [List.take_length] at hak
      (repeat ((first | refine zI (by omega) ?_ | refine zE (by omega) (by omega) ?_ | refine zD (by omega) (by omega) ?_ | refine zY (by omega) ?_ | refine zN (by omega) ?_ | refine amin ?_ | refine amax ?_ | refine zU (by omega) ?_ | refine z8 (by omega) ?_ | refine zX (by omega) (by omega) ?_ | refine zR rfl ?_ | refine acellA ?_ | (apply zL H; (· repeat first | exact .h | apply AtK.t); (· rfl)) | (apply zA H; (· repeat first | exact .h | apply AtK.t)) | (apply zS H; (· repeat first | exact .h | apply AtK.t); (· rfl); (conv => whnf); clear H; intro τ H) | rw [List.length_map]); (refine wX ?_)))
      cases ends
      · (refine wX ?_)
        (repeat ((first | refine zI (by omega) ?_ | refine zE (by omega) (by omega) ?_ | refine zD (by omega) (by omega) ?_ | refine zY (by omega) ?_ | refine zN (by omega) ?_ | refine amin ?_ | refine amax ?_ | refine zU (by omega) ?_ | refine z8 (by omega) ?_ | refine zX (by omega) (by omega) ?_ | refine zR rfl ?_ | refine acellA ?_ | (apply zL H; (· repeat first | exact .h | apply AtK.t); (· rfl)) | (apply zA H; (· repeat first | exact .h | apply AtK.t)) | (apply zS H; (· repeat first | exact .h | apply AtK.t); (· rfl); (conv => whnf); clear H; intro τ H) | rw [List.length_map]); (refine wX ?_)))
        refine abits_eq rfl ?_
        (refine wX ?_)
        rw [if_neg (by simp), if_neg (by simp), if_neg (by simp)]
        by_cases hb : bitsOp .and .i64 p.fi 1 = 0
        · rw [if_pos hb]
          (repeat ((first | refine zI (by omega) ?_ | refine zE (by omega) (by omega) ?_ | refine zD (by omega) (by omega) ?_ | refine zY (by omega) ?_ | refine zN (by omega) ?_ | refine amin ?_ | refine amax ?_ | refine zU (by omega) ?_ | refine z8 (by omega) ?_ | refine zX (by omega) (by omega) ?_ | refine zR rfl ?_ | refine acellA ?_ | (apply zL H; (· repeat first | exact .h | apply AtK.t); (· rfl)) | (apply zA H; (· repeat first | exact .h | apply AtK.t)) | (apply zS H; (· repeat first | exact .h | apply AtK.t); (· rfl); (conv => whnf); clear H; intro τ H) | rw [List.length_map]); (refine wX ?_)))
          apply zMs H
          · (repeat first | exact .h | apply AtK.t)
          · rfl
          (conv => whnf)
          clear H
          intro τ H
          (refine wX ?_)
          exact aret (VLe.refl _) (Sub.refl _) ⟨rfl, H.tail⟩
        · rw [if_neg hb]
          (repeat ((first | refine zI (by omega) ?_ | refine zE (by omega) (by omega) ?_ | refine zD (by omega) (by omega) ?_ | refine zY (by omega) ?_ | refine zN (by omega) ?_ | refine amin ?_ | refine amax ?_ | refine zU (by omega) ?_ | refine z8 (by omega) ?_ | refine zX (by omega) (by omega) ?_ | refine zR rfl ?_ | refine acellA ?_ | (apply zL H; (· repeat first | exact .h | apply AtK.t); (· rfl)) | (apply zA H; (· repeat first | exact .h | apply AtK.t)) | (apply zS H; (· repeat first | exact .h | apply AtK.t); (· rfl); (conv => whnf); clear H; intro τ H) | rw [List.length_map]); (refine wX ?_)))
          exact aret (VLe.refl _) (Sub.refl _) ⟨rfl, H.tail⟩
      · (refine wX ?_)
        (repeat ((first | refine zI (by omega) ?_ | refine zE (by omega) (by omega) ?_ | refine zD (by omega) (by omega) ?_ | refine zY (by omega) ?_ | refine zN (by omega) ?_ | refine amin ?_ | refine amax ?_ | refine zU (by omega) ?_ | refine z8 (by omega) ?_ | refine zX (by omega) (by omega) ?_ | refine zR rfl ?_ | refine acellA ?_ | (apply zL H; (· repeat first | exact .h | apply AtK.t); (· rfl)) | (apply zA H; (· repeat first | exact .h | apply AtK.t)) | (apply zS H; (· repeat first | exact .h | apply AtK.t); (· rfl); (conv => whnf); clear H; intro τ H) | rw [List.length_map]); (refine wX ?_)))
        refine abits_eq rfl ?_
        (refine wX ?_)
        (repeat ((first | refine zI (by omega) ?_ | refine zE (by omega) (by omega) ?_ | refine zD (by omega) (by omega) ?_ | refine zY (by omega) ?_ | refine zN (by omega) ?_ | refine amin ?_ | refine amax ?_ | refine zU (by omega) ?_ | refine z8 (by omega) ?_ | refine zX (by omega) (by omega) ?_ | refine zR rfl ?_ | refine acellA ?_ | (apply zL H; (· repeat first | exact .h | apply AtK.t); (· rfl)) | (apply zA H; (· repeat first | exact .h | apply AtK.t)) | (apply zS H; (· repeat first | exact .h | apply AtK.t); (· rfl); (conv => whnf); clear H; intro τ H) | rw [List.length_map]); (refine wX ?_)))
        refine abits_eq rfl ?_
        (refine wX ?_)
        (repeat ((first | refine zI (by omega) ?_ | refine zE (by omega) (by omega) ?_ | refine zD (by omega) (by omega) ?_ | refine zY (by omega) ?_ | refine zN (by omega) ?_ | refine amin ?_ | refine amax ?_ | refine zU (by omega) ?_ | refine z8 (by omega) ?_ | refine zX (by omega) (by omega) ?_ | refine zR rfl ?_ | refine acellA ?_ | (apply zL H; (· repeat first | exact .h | apply AtK.t); (· rfl)) | (apply zA H; (· repeat first | exact .h | apply AtK.t)) | (apply zS H; (· repeat first | exact .h | apply AtK.t); (· rfl); (conv => whnf); clear H; intro τ H) | rw [List.length_map]); (refine wX ?_)))
        exact aret (VLe.refl _) (Sub.refl _) ⟨rfl, H.tail⟩
end
end Go.Proofs.Ytgobbmdbkmjlnaa
/-
  What came in parts: a packet that comes.
-/
namespace Go.Proofs.Ytgobbmdbkmjlnaa
set_option linter.unusedVariables false
set_option linter.unusedSimpArgs false
set_option maxRecDepth 20000
open Go Go.Am

theorem Hp.mid {σb σ : AHeap} {A B C : List HE} (H : Hp σb (A ++ (B ++ C)) σ) : Hp σb (B ++ (A ++ C)) σ :=
  H.perm (by rw [← List.append_assoc, ← List.append_assoc]; exact List.perm_append_comm.append_right _)
theorem Hp.mid2 {σb σ : AHeap} {A B C D : List HE} (H : Hp σb (A ++ (B ++ (C ++ D))) σ) : Hp σb (A ++ (C ++ (B ++ D))) σ :=
  H.perm (List.Perm.append_left A (by rw [← List.append_assoc, ← List.append_assoc]; exact List.perm_append_comm.append_right _))
theorem Hp.rest {σb σ : AHeap} {A L : List HE} (H : Hp σb (A ++ L) σ) : Hp σb L σ := (H.perm List.perm_append_comm).left
theorem RB.cells1 {v : AVal} {D : List UInt8} {E : List HE} (h : RB v D E) : v.cells = [v] := by cases h <;> rfl
theorem mapSet_same : ∀ {es : List (Int × AVal)} {n : Int} {x : AVal}, es.find? (fun e => e.1 == n) = some (n, x) → mapSet es n x = es
  | [], _, _, h => by simp at h
  | (m, y) :: r, n, x, h => by
    rw [List.find?_cons] at h
    by_cases hm : m = n
    · subst hm
      simp at h
      subst h
      simp [mapSet]
    · have hb : (m == n) = false := by simp [hm]
      dsimp only at h
      rw [hb] at h
      simp [mapSet, hm, mapSet_same (es := r) h]
theorem mapSet_new {es : List (Int × AVal)} {n : Int} {x : AVal} (h : es.find? (fun e => e.1 == n) = none) : mapSet es n x = es ++ [(n, x)] := by
  induction es with
  | nil => rfl
  | cons a r ih =>
    rw [List.find?_cons] at h
    obtain ⟨m, y⟩ := a
    by_cases hm : m = n
    · subst hm; simp at h
    · have hb : (m == n) = false := by simp [hm]
      dsimp only at h
      rw [hb] at h
      simp [mapSet, hm, ih h]
def endsB (p : Pk) : Bool := !p.part || p.last
/-- A packet's bytes, as a span. -/
def spanP (p : Pk) : Sp := (p.off, p.off + (total p.fs : Int))
/-- What Put says, of what is there of a piece. -/
def putK (p : Pk) (l : List Sp) (e : Int) : Int :=
  if rightB p = false then 1 else if fitsC l e (spanP p) (endsB p) ≠ 0 then fitsC l e (spanP p) (endsB p) else addC (spanP p) l
theorem right_ok {p : Pk} (h : rightB p = true) : 1 ≤ p.fs.length ∧ p.fs.length ≤ 24 ∧ (∀ f ∈ p.fs, f ≠ []) ∧ 0 ≤ p.fi ∧ p.fi ≤ 3 ∧ 0 ≤ p.off ∧ p.off ≤ 4000 ∧ (p.part = true ∨ p.off = 0) ∧ p.off + (total p.fs : Int) ≤ 4000 := by
  unfold rightB at h
  simp only [Bool.and_eq_true, Bool.not_eq_true', Bool.or_eq_false_iff, decide_eq_false_iff_not, decide_eq_true_eq, Bool.or_eq_true] at h
  obtain ⟨⟨⟨⟨⟨h1, h2⟩, h3⟩, h4⟩, h5⟩, ⟨⟨h6, h7⟩, h8⟩, h9⟩ := h
  refine ⟨by omega, by omega, fun f hf e => ?_, by omega, by omega, h6, h7, h8, by omega⟩
  have : hollowB p.fs = true := List.any_eq_true.2 ⟨f, hf, decide_eq_true e⟩
  rw [this] at h3; cases h3
theorem right_pos {p : Pk} (h : rightB p = true) : 1 ≤ total p.fs := by
  obtain ⟨h1, _, h3, _⟩ := right_ok h
  have h4 := total_get (l := p.fs) (i := 0) (by omega)
  have h5 : p.fs[0].length ≠ 0 := fun e => h3 _ (List.getElem_mem (by omega)) (List.length_eq_zero_iff.1 e)
  omega

section
variable {σb σ : AHeap} {ib im ip is ig : Nat} {e fi : Int} {l : List Sp} {tk : Tok} {v : AVal} {D : List UInt8} {em es : List (Int × AVal)} {E G : List HE}
theorem peFillA (h : RB v D E) (H : Hp σb (.o ip (.cells (peC v is e ig fi)) :: .o is (.cells [spL tk l]) :: (E ++ G)) σ) (f : Nat) (off : Int) (ho : off = f) (d : List UInt8) (hd : d ≠ []) (hf : f + d.length ≤ 1000000) (hD : D.length ≤ 1000000) (hl : l.length ≤ 1000000) :
    ACalls Try.prog i_rxbuf_piece_fill [.ptr ip 0, i64v off, sl .none d] σ fun r σ' => r = .tup [] ∧ ∃ v' E', RB v' (fillB l f d D) E' ∧ Hp σb (.o ip (.cells (peC v' is e ig fi)) :: .o is (.cells [spL tk l]) :: (E' ++ G)) σ' := by
  subst ho
  refine acall_less (peFill h (Hp.mid (A := [.o ip (.cells (peC v is e ig fi)), .o is (.cells [spL tk l])]) H) f d hd hf hD hl) ?_
  rintro _ σ' ⟨rfl, v', E', h', H'⟩
  exact ⟨_, _, VLe.refl _, Sub.refl _, rfl, v', E', h', Hp.mid (B := [.o ip (.cells (peC v' is e ig fi)), .o is (.cells [spL tk l])]) H'⟩

set_option maxHeartbeats 8000000 in
theorem buPutOld (h : RB v D E) (H : Hp σb (.o ip (.cells (peC v is e ig fi)) :: .o is (.cells [spL tk l]) :: .o ig (.map em) :: .o ib (.cells (buC im)) :: .o im (.map es) :: (E ++ G)) σ) (p : Pk) (he : es.find? (fun e => e.1 == p.sn) = some (p.sn, .ptr ip 0)) (hs : SOk l)
    (hD : D.length ≤ 1000000) (hl : p.fs.length ≤ 1000) (ht : total p.fs ≤ 1000000) :
    ACalls Try.prog i_rxbuf_Buffer_Put [.ptr ib 0, amV p] σ fun r σ' => r = i64v (putK p l e) ∧
      ((putK p l e ≠ 0 ∧ ∃ u, Hp σb (.o ip (.cells (peC v is e ig fi)) :: .o is (.cells [spL u l]) :: .o ig (.map em) :: .o ib (.cells (buC im)) :: .o im (.map es) :: (E ++ G)) σ') ∨
       (putK p l e = 0 ∧ ∃ v2 E2 u, RB v2 (fillB l p.off.toNat p.fs.flatten D) E2 ∧ Hp σb (.o ip (.cells (peC v2 is (noteE p (endsB p) e) ig (noteF p (endsB p) fi))) :: .o is (.cells [spL u (addS (spanP p) l)]) :: .o ig (.map (noteM p (endsB p) em)) :: .o ib (.cells (buC im)) :: .o im (.map es) :: (E2 ++ G)) σ')) := by
  refine k_rxbuf_Buffer_Put rfl ?_
  (refine wX ?_)
  refine hnew H rfl ?_
  clear H
  intro i3 τ H
  (refine wX ?_)
  refine acall (buMade (H.get (k := 4) rfl)) ?_
  rintro _ σ_ ⟨rfl, e_⟩
  obtain rfl := e_.symm
  refine ⟨?_, Ext.refl _⟩
  (refine wX ?_)
  (repeat ((first | refine zI (by omega) ?_ | refine zE (by omega) (by omega) ?_ | refine zD (by omega) (by omega) ?_ | refine zY (by omega) ?_ | refine zN (by omega) ?_ | refine amin ?_ | refine amax ?_ | refine zU (by omega) ?_ | refine z8 (by omega) ?_ | refine zX (by omega) (by omega) ?_ | refine zR rfl ?_ | refine acellA ?_ | (apply zL H; (· repeat first | exact .h | apply AtK.t); (· rfl)) | (apply zA H; (· repeat first | exact .h | apply AtK.t)) | (apply zS H; (· repeat first | exact .h | apply AtK.t); (· rfl); (conv => whnf); clear H; intro τ H) | rw [List.length_map]); (refine wX ?_)))
  refine acall (buRight p τ hl (by omega)) ?_
  rintro _ σ_ ⟨rfl, e_⟩
  obtain rfl := e_.symm
  refine ⟨?_, Ext.refl _⟩
  (refine wX ?_)
  rcases (show rightB p = false ∨ rightB p = true by cases rightB p <;> simp) with hr | hr
  · have hk : putK p l e = 1 := by unfold putK; rw [if_pos hr]
    rw [hr]
    (refine wX ?_)
    (repeat ((first | refine zI (by omega) ?_ | refine zE (by omega) (by omega) ?_ | refine zD (by omega) (by omega) ?_ | refine zY (by omega) ?_ | refine zN (by omega) ?_ | refine amin ?_ | refine amax ?_ | refine zU (by omega) ?_ | refine z8 (by omega) ?_ | refine zX (by omega) (by omega) ?_ | refine zR rfl ?_ | refine acellA ?_ | (apply zL H; (· repeat first | exact .h | apply AtK.t); (· rfl)) | (apply zA H; (· repeat first | exact .h | apply AtK.t)) | (apply zS H; (· repeat first | exact .h | apply AtK.t); (· rfl); (conv => whnf); clear H; intro τ H) | rw [List.length_map]); (refine wX ?_)))
    exact aret (VLe.refl _) (Sub.refl _) ⟨by rw [hk], .inl ⟨by rw [hk]; decide, ⟨tk, H.tail⟩⟩⟩
  rw [hr]
  obtain ⟨g1, g2, g3, g4, g5, g6, g7, g8, g9⟩ := right_ok hr
  have gp := right_pos hr
  have hdn : p.fs.flatten ≠ [] := fun h => by have : total p.fs = 0 := by unfold total; rw [h]; rfl
                                              omega
  have htl : p.fs.flatten.length = total p.fs := rfl
  (refine wX ?_)
  (repeat ((first | refine zI (by omega) ?_ | refine zE (by omega) (by omega) ?_ | refine zD (by omega) (by omega) ?_ | refine zY (by omega) ?_ | refine zN (by omega) ?_ | refine amin ?_ | refine amax ?_ | refine zU (by omega) ?_ | refine z8 (by omega) ?_ | refine zX (by omega) (by omega) ?_ | refine zR rfl ?_ | refine acellA ?_ | (apply zL H; (· repeat first | exact .h | apply AtK.t); (· rfl)) | (apply zA H; (· repeat first | exact .h | apply AtK.t)) | (apply zS H; (· repeat first | exact .h | apply AtK.t); (· rfl); (conv => whnf); clear H; intro τ H) | rw [List.length_map]); (refine wX ?_)))
  refine acall (aData p τ hl (by omega)) ?_
  rintro _ σ_ ⟨rfl, e_⟩
  obtain rfl := e_.symm
  refine ⟨?_, Ext.refl _⟩
  (refine wX ?_)
  (repeat ((first | refine zI (by omega) ?_ | refine zE (by omega) (by omega) ?_ | refine zD (by omega) (by omega) ?_ | refine zY (by omega) ?_ | refine zN (by omega) ?_ | refine amin ?_ | refine amax ?_ | refine zU (by omega) ?_ | refine z8 (by omega) ?_ | refine zX (by omega) (by omega) ?_ | refine zR rfl ?_ | refine acellA ?_ | (apply zL H; (· repeat first | exact .h | apply AtK.t); (· rfl)) | (apply zA H; (· repeat first | exact .h | apply AtK.t)) | (apply zS H; (· repeat first | exact .h | apply AtK.t); (· rfl); (conv => whnf); clear H; intro τ H) | rw [List.length_map]); (refine wX ?_)))
  refine hnew H rfl ?_
  clear H
  intro i6 τ H
  (refine wX ?_)
  (repeat ((first | refine zI (by omega) ?_ | refine zE (by omega) (by omega) ?_ | refine zD (by omega) (by omega) ?_ | refine zY (by omega) ?_ | refine zN (by omega) ?_ | refine amin ?_ | refine amax ?_ | refine zU (by omega) ?_ | refine z8 (by omega) ?_ | refine zX (by omega) (by omega) ?_ | refine zR rfl ?_ | refine acellA ?_ | (apply zL H; (· repeat first | exact .h | apply AtK.t); (· rfl)) | (apply zA H; (· repeat first | exact .h | apply AtK.t)) | (apply zS H; (· repeat first | exact .h | apply AtK.t); (· rfl); (conv => whnf); clear H; intro τ H) | rw [List.length_map]); (refine wX ?_)))
  rcases (show p.part = false ∨ p.part = true by cases p.part <;> simp) with hp | hp
  · have hen : endsB p = true := by unfold endsB; rw [hp]; rfl
    refine abr_true (show (!p.part) = true by rw [hp]; rfl) ?_
    (refine wX ?_)
    (repeat ((first | refine zI (by omega) ?_ | refine zE (by omega) (by omega) ?_ | refine zD (by omega) (by omega) ?_ | refine zY (by omega) ?_ | refine zN (by omega) ?_ | refine amin ?_ | refine amax ?_ | refine zU (by omega) ?_ | refine z8 (by omega) ?_ | refine zX (by omega) (by omega) ?_ | refine zR rfl ?_ | refine acellA ?_ | (apply zL H; (· repeat first | exact .h | apply AtK.t); (· rfl)) | (apply zA H; (· repeat first | exact .h | apply AtK.t)) | (apply zS H; (· repeat first | exact .h | apply AtK.t); (· rfl); (conv => whnf); clear H; intro τ H) | rw [List.length_map]); (refine wX ?_)))
    refine hlook H (k := 6) rfl ?_
    rw [he, Option.map_some, Option.getD_some]
    (refine wX ?_)
    (repeat ((first | refine zI (by omega) ?_ | refine zE (by omega) (by omega) ?_ | refine zD (by omega) (by omega) ?_ | refine zY (by omega) ?_ | refine zN (by omega) ?_ | refine amin ?_ | refine amax ?_ | refine zU (by omega) ?_ | refine z8 (by omega) ?_ | refine zX (by omega) (by omega) ?_ | refine zR rfl ?_ | refine acellA ?_ | (apply zL H; (· repeat first | exact .h | apply AtK.t); (· rfl)) | (apply zA H; (· repeat first | exact .h | apply AtK.t)) | (apply zS H; (· repeat first | exact .h | apply AtK.t); (· rfl); (conv => whnf); clear H; intro τ H) | rw [List.length_map]); (refine wX ?_)))
    replace H := Hp.mid (A := [.o i6 (.cells [i64v p.off, i64v (p.off + (total p.fs : Int))]), .o i3 (.cells (amC p))]) (B := [.o ip (.cells (peC v is e ig fi)), .o is (.cells [spL tk l]), .o ig (.map em)]) (C := .o ib (.cells (buC im)) :: .o im (.map es) :: (E ++ G)) H
    replace H : Hp σb (.o ip (.cells (peC v is e ig fi)) :: .o is (.cells [spL tk l]) :: .o ig (.map em) :: .o i6 (.cells [i64v p.off, i64v (p.off + (total p.fs : Int))]) :: .o i3 (.cells (amC p)) :: .o ib (.cells (buC im)) :: .o im (.map es) :: (E ++ G)) τ := H
    refine acall (peFits (H.get (k := 0) rfl) (H.get (k := 1) rfl) (by have := hs.k; omega) (spanP p) true) ?_
    rintro _ σ_ ⟨rfl, e_⟩
    obtain rfl := e_.symm
    refine ⟨?_, Ext.refl _⟩
    (refine wX ?_)
    have hk : putK p l e = if fitsC l e (spanP p) true ≠ 0 then fitsC l e (spanP p) true else addC (spanP p) l := by unfold putK; rw [if_neg (by rw [hr]; simp), hen]
    by_cases hc : fitsC l e (spanP p) true = 0
    case neg =>
      rw [if_pos hc] at hk
      (repeat ((first | refine zI (by omega) ?_ | refine zE (by omega) (by omega) ?_ | refine zD (by omega) (by omega) ?_ | refine zY (by omega) ?_ | refine zN (by omega) ?_ | refine amin ?_ | refine amax ?_ | refine zU (by omega) ?_ | refine z8 (by omega) ?_ | refine zX (by omega) (by omega) ?_ | refine zR rfl ?_ | refine acellA ?_ | (apply zL H; (· repeat first | exact .h | apply AtK.t); (· rfl)) | (apply zA H; (· repeat first | exact .h | apply AtK.t)) | (apply zS H; (· repeat first | exact .h | apply AtK.t); (· rfl); (conv => whnf); clear H; intro τ H) | rw [List.length_map]); (refine wX ?_)))
      exact aret (VLe.refl _) (Sub.refl _) ⟨by rw [hk], .inl ⟨by rw [hk]; exact hc, ⟨tk, Hp.rest (A := [.o i6 (.cells [i64v p.off, i64v (p.off + (total p.fs : Int))]), .o i3 (.cells (amC p))]) (Hp.mid (A := [.o ip (.cells (peC v is e ig fi)), .o is (.cells [spL tk l]), .o ig (.map em)]) (B := [.o i6 (.cells [i64v p.off, i64v (p.off + (total p.fs : Int))]), .o i3 (.cells (amC p))]) (C := .o ib (.cells (buC im)) :: .o im (.map es) :: (E ++ G)) H)⟩⟩⟩
    rw [if_neg (by rw [hc]; simp)] at hk
    rw [hc]
    (refine wX ?_)
    (repeat ((first | refine zI (by omega) ?_ | refine zE (by omega) (by omega) ?_ | refine zD (by omega) (by omega) ?_ | refine zY (by omega) ?_ | refine zN (by omega) ?_ | refine amin ?_ | refine amax ?_ | refine zU (by omega) ?_ | refine z8 (by omega) ?_ | refine zX (by omega) (by omega) ?_ | refine zR rfl ?_ | refine acellA ?_ | (apply zL H; (· repeat first | exact .h | apply AtK.t); (· rfl)) | (apply zA H; (· repeat first | exact .h | apply AtK.t)) | (apply zS H; (· repeat first | exact .h | apply AtK.t); (· rfl); (conv => whnf); clear H; intro τ H) | rw [List.length_map]); (refine wX ?_)))
    refine acall (cloneB (RB.dv (F := [.o ip (.cells (peC v is e ig fi)), .o is (.cells [spL tk l]), .o ig (.map em), .o i6 (.cells [i64v p.off, i64v (p.off + (total p.fs : Int))]), .o i3 (.cells (amC p)), .o ib (.cells (buC im)), .o im (.map es)]) h H) (by omega)) ?_
    rintro v1 υ ⟨E1, h1, N⟩
    refine ⟨?_, N.ext⟩
    replace H := Hp.mid (A := E1) (B := [.o ip (.cells (peC v is e ig fi)), .o is (.cells [spL tk l]), .o ig (.map em), .o i6 (.cells [i64v p.off, i64v (p.off + (total p.fs : Int))]), .o i3 (.cells (amC p)), .o ib (.cells (buC im)), .o im (.map es)]) (C := E ++ G) (H.join N)
    replace H : Hp σb (.o ip (.cells (peC v is e ig fi)) :: .o is (.cells [spL tk l]) :: .o ig (.map em) :: .o i6 (.cells [i64v p.off, i64v (p.off + (total p.fs : Int))]) :: .o i3 (.cells (amC p)) :: .o ib (.cells (buC im)) :: .o im (.map es) :: (E1 ++ (E ++ G))) υ := H
    clear N
    (refine wX ?_)
    (repeat ((first | refine zI (by omega) ?_ | refine zE (by omega) (by omega) ?_ | refine zD (by omega) (by omega) ?_ | refine zY (by omega) ?_ | refine zN (by omega) ?_ | refine amin ?_ | refine amax ?_ | refine zU (by omega) ?_ | refine z8 (by omega) ?_ | refine zX (by omega) (by omega) ?_ | refine zR rfl ?_ | refine acellA ?_ | (apply zL H; (· repeat first | exact .h | apply AtK.t); (· rfl)) | (apply zA H; (· repeat first | exact .h | apply AtK.t)) | (apply zS H; (· repeat first | exact .h | apply AtK.t); (· rfl); (conv => whnf); clear H; intro τ H) | rw [List.length_map]); (refine wX ?_)))
    rw [h1.cells1]
    (refine wX ?_)
    apply zS H
    · exact .h
    · show (v1.isCell && true) = true
      rw [h1.isCell]; rfl
    (conv => whnf)
    clear H
    intro τ H
    (refine wX ?_)
    (repeat ((first | refine zI (by omega) ?_ | refine zE (by omega) (by omega) ?_ | refine zD (by omega) (by omega) ?_ | refine zY (by omega) ?_ | refine zN (by omega) ?_ | refine amin ?_ | refine amax ?_ | refine zU (by omega) ?_ | refine z8 (by omega) ?_ | refine zX (by omega) (by omega) ?_ | refine zR rfl ?_ | refine acellA ?_ | (apply zL H; (· repeat first | exact .h | apply AtK.t); (· rfl)) | (apply zA H; (· repeat first | exact .h | apply AtK.t)) | (apply zS H; (· repeat first | exact .h | apply AtK.t); (· rfl); (conv => whnf); clear H; intro τ H) | rw [List.length_map]); (refine wX ?_)))
    replace H : Hp σb (.o ip (.cells (peC v1 is e ig fi)) :: .o is (.cells [spL tk l]) :: (E1 ++ ([.o ig (.map em), .o i6 (.cells [i64v p.off, i64v (p.off + (total p.fs : Int))]), .o i3 (.cells (amC p)), .o ib (.cells (buC im)), .o im (.map es)] ++ (E ++ G)))) τ :=
      Hp.mid (B := [.o ip (.cells (peC v1 is e ig fi)), .o is (.cells [spL tk l])]) (Hp.mid (A := [.o ip (.cells (peC v1 is e ig fi)), .o is (.cells [spL tk l]), .o ig (.map em), .o i6 (.cells [i64v p.off, i64v (p.off + (total p.fs : Int))]), .o i3 (.cells (amC p)), .o ib (.cells (buC im)), .o im (.map es)]) (B := E1) (C := E ++ G) H)
    refine acall (peFillA h1 H p.off.toNat p.off (by omega) p.fs.flatten hdn (by show p.off.toNat + p.fs.flatten.length ≤ _; omega) hD (by have := hs.k; omega)) ?_
    clear H h1
    rintro _ τ ⟨rfl, v2, E2, h2, H⟩
    replace H : Hp σb (.o ip (.cells (peC v2 is e ig fi)) :: .o is (.cells [spL tk l]) :: .o ig (.map em) :: .o i6 (.cells [i64v p.off, i64v (p.off + (total p.fs : Int))]) :: .o i3 (.cells (amC p)) :: .o ib (.cells (buC im)) :: .o im (.map es) :: (E2 ++ (E ++ G))) τ := Hp.mid2 (A := [.o ip (.cells (peC v2 is e ig fi)), .o is (.cells [spL tk l])]) (B := E2) (C := [.o ig (.map em), .o i6 (.cells [i64v p.off, i64v (p.off + (total p.fs : Int))]), .o i3 (.cells (amC p)), .o ib (.cells (buC im)), .o im (.map es)]) H
    (refine wX ?_)
    (repeat ((first | refine zI (by omega) ?_ | refine zE (by omega) (by omega) ?_ | refine zD (by omega) (by omega) ?_ | refine zY (by omega) ?_ | refine zN (by omega) ?_ | refine amin ?_ | refine amax ?_ | refine zU (by omega) ?_ | refine z8 (by omega) ?_ | refine zX (by omega) (by omega) ?_ | refine zR rfl ?_ | refine acellA ?_ | (apply zL H; (· repeat first | exact .h | apply AtK.t); (· rfl)) | (apply zA H; (· repeat first | exact .h | apply AtK.t)) | (apply zS H; (· repeat first | exact .h | apply AtK.t); (· rfl); (conv => whnf); clear H; intro τ H) | rw [List.length_map]); (refine wX ?_)))
    refine acall (sAdd (H.perm (.swap _ _ _)) (spanP p) (by have := hs.k; omega)) ?_
    clear H
    rintro _ τ ⟨rfl, u, H⟩
    replace H : Hp σb (.o is (.cells [spL u (addS (spanP p) l)]) :: .o ip (.cells (peC v2 is e ig fi)) :: .o ig (.map em) :: .o i6 (.cells [i64v p.off, i64v (p.off + (total p.fs : Int))]) :: .o i3 (.cells (amC p)) :: .o ib (.cells (buC im)) :: .o im (.map es) :: (E2 ++ (E ++ G))) τ := H
    (refine wX ?_)
    by_cases ha : addC (spanP p) l = 0
    case neg =>
      rw [add_no ha] at H
      (repeat ((first | refine zI (by omega) ?_ | refine zE (by omega) (by omega) ?_ | refine zD (by omega) (by omega) ?_ | refine zY (by omega) ?_ | refine zN (by omega) ?_ | refine amin ?_ | refine amax ?_ | refine zU (by omega) ?_ | refine z8 (by omega) ?_ | refine zX (by omega) (by omega) ?_ | refine zR rfl ?_ | refine acellA ?_ | (apply zL H; (· repeat first | exact .h | apply AtK.t); (· rfl)) | (apply zA H; (· repeat first | exact .h | apply AtK.t)) | (apply zS H; (· repeat first | exact .h | apply AtK.t); (· rfl); (conv => whnf); clear H; intro τ H) | rw [List.length_map]); (refine wX ?_)))
      rw [RB.cells1 h]
      (refine wX ?_)
      apply zS H
      · repeat first | exact .h | apply AtK.t
      · show ((v : AVal).isCell && true) = true
        rw [RB.isCell h]; rfl
      (conv => whnf)
      clear H
      intro τ H
      (refine wX ?_)
      have H := Hp.rest (A := E2) (Hp.mid (A := [.o is (.cells [spL u l]), .o ip (.cells (peC v is e ig fi)), .o ig (.map em), .o i6 (.cells [i64v p.off, i64v (p.off + (total p.fs : Int))]), .o i3 (.cells (amC p)), .o ib (.cells (buC im)), .o im (.map es)]) (B := E2) H)
      (repeat ((first | refine zI (by omega) ?_ | refine zE (by omega) (by omega) ?_ | refine zD (by omega) (by omega) ?_ | refine zY (by omega) ?_ | refine zN (by omega) ?_ | refine amin ?_ | refine amax ?_ | refine zU (by omega) ?_ | refine z8 (by omega) ?_ | refine zX (by omega) (by omega) ?_ | refine zR rfl ?_ | refine acellA ?_ | (apply zL H; (· repeat first | exact .h | apply AtK.t); (· rfl)) | (apply zA H; (· repeat first | exact .h | apply AtK.t)) | (apply zS H; (· repeat first | exact .h | apply AtK.t); (· rfl); (conv => whnf); clear H; intro τ H) | rw [List.length_map]); (refine wX ?_)))
      exact aret (VLe.refl _) (Sub.refl _) ⟨by rw [hk], .inl ⟨by rw [hk]; exact ha, ⟨u, Hp.rest (A := [.o i6 (.cells [i64v p.off, i64v (p.off + (total p.fs : Int))]), .o i3 (.cells (amC p))]) (Hp.mid (A := [.o ip (.cells (peC v is e ig fi)), .o is (.cells [spL u l]), .o ig (.map em)]) (B := [.o i6 (.cells [i64v p.off, i64v (p.off + (total p.fs : Int))]), .o i3 (.cells (amC p))]) (C := .o ib (.cells (buC im)) :: .o im (.map es) :: (E ++ G)) (H.perm (.swap _ _ _)))⟩⟩⟩
    rw [ha]
    (refine wX ?_)
    (repeat ((first | refine zI (by omega) ?_ | refine zE (by omega) (by omega) ?_ | refine zD (by omega) (by omega) ?_ | refine zY (by omega) ?_ | refine zN (by omega) ?_ | refine amin ?_ | refine amax ?_ | refine zU (by omega) ?_ | refine z8 (by omega) ?_ | refine zX (by omega) (by omega) ?_ | refine zR rfl ?_ | refine acellA ?_ | (apply zL H; (· repeat first | exact .h | apply AtK.t); (· rfl)) | (apply zA H; (· repeat first | exact .h | apply AtK.t)) | (apply zS H; (· repeat first | exact .h | apply AtK.t); (· rfl); (conv => whnf); clear H; intro τ H) | rw [List.length_map]); (refine wX ?_)))
    replace H : Hp σb (.o ip (.cells (peC v2 is e ig fi)) :: .o ig (.map em) :: .o is (.cells [spL u (addS (spanP p) l)]) :: (.o i6 (.cells [i64v p.off, i64v (p.off + (total p.fs : Int))]) :: .o i3 (.cells (amC p)) :: .o ib (.cells (buC im)) :: .o im (.map es) :: (E2 ++ (E ++ G)))) τ := H.perm (.trans (.swap _ _ _) (.cons _ (.swap _ _ _)))
    refine acall (peNote H h2.isCell p true (by omega) (by omega) (by omega)) ?_
    clear H
    rintro _ τ ⟨rfl, H⟩
    (refine wX ?_)
    (repeat ((first | refine zI (by omega) ?_ | refine zE (by omega) (by omega) ?_ | refine zD (by omega) (by omega) ?_ | refine zY (by omega) ?_ | refine zN (by omega) ?_ | refine amin ?_ | refine amax ?_ | refine zU (by omega) ?_ | refine z8 (by omega) ?_ | refine zX (by omega) (by omega) ?_ | refine zR rfl ?_ | refine acellA ?_ | (apply zL H; (· repeat first | exact .h | apply AtK.t); (· rfl)) | (apply zA H; (· repeat first | exact .h | apply AtK.t)) | (apply zS H; (· repeat first | exact .h | apply AtK.t); (· rfl); (conv => whnf); clear H; intro τ H) | rw [List.length_map]); (refine wX ?_)))
    apply zMs H
    · (repeat first | exact .h | apply AtK.t)
    · rfl
    (conv => whnf)
    clear H
    intro τ H
    (refine wX ?_)
    rw [mapSet_same he] at H
    (repeat ((first | refine zI (by omega) ?_ | refine zE (by omega) (by omega) ?_ | refine zD (by omega) (by omega) ?_ | refine zY (by omega) ?_ | refine zN (by omega) ?_ | refine amin ?_ | refine amax ?_ | refine zU (by omega) ?_ | refine z8 (by omega) ?_ | refine zX (by omega) (by omega) ?_ | refine zR rfl ?_ | refine acellA ?_ | (apply zL H; (· repeat first | exact .h | apply AtK.t); (· rfl)) | (apply zA H; (· repeat first | exact .h | apply AtK.t)) | (apply zS H; (· repeat first | exact .h | apply AtK.t); (· rfl); (conv => whnf); clear H; intro τ H) | rw [List.length_map]); (refine wX ?_)))
    rw [hen]
    exact aret (VLe.refl _) (Sub.refl _) ⟨by rw [hk, ha], .inr ⟨by rw [hk, ha], ⟨v2, E2, u, h2, (Hp.rest (A := E) (Hp.mid (A := .o ip (.cells (peC v2 is (noteE p true e) ig (noteF p true fi))) :: .o ig (.map (noteM p true em)) :: .o is (.cells [spL u (addS (spanP p) l)]) :: .o ib (.cells (buC im)) :: .o im (.map es) :: E2) (B := E) (C := G) (Hp.rest (A := [.o i6 (.cells [i64v p.off, i64v (p.off + (total p.fs : Int))]), .o i3 (.cells (amC p))]) (Hp.mid (A := [.o ip (.cells (peC v2 is (noteE p true e) ig (noteF p true fi))), .o ig (.map (noteM p true em)), .o is (.cells [spL u (addS (spanP p) l)])]) (B := [.o i6 (.cells [i64v p.off, i64v (p.off + (total p.fs : Int))]), .o i3 (.cells (amC p))]) (C := .o ib (.cells (buC im)) :: .o im (.map es) :: (E2 ++ (E ++ G))) H)))).perm (.cons _ (.swap _ _ _))⟩⟩⟩
  · have hen : endsB p = p.last := by unfold endsB; rw [hp]; rfl
    refine abr_false (show (!p.part) = false by rw [hp]; rfl) ?_
    (refine wX ?_)
    (repeat ((first | refine zI (by omega) ?_ | refine zE (by omega) (by omega) ?_ | refine zD (by omega) (by omega) ?_ | refine zY (by omega) ?_ | refine zN (by omega) ?_ | refine amin ?_ | refine amax ?_ | refine zU (by omega) ?_ | refine z8 (by omega) ?_ | refine zX (by omega) (by omega) ?_ | refine zR rfl ?_ | refine acellA ?_ | (apply zL H; (· repeat first | exact .h | apply AtK.t); (· rfl)) | (apply zA H; (· repeat first | exact .h | apply AtK.t)) | (apply zS H; (· repeat first | exact .h | apply AtK.t); (· rfl); (conv => whnf); clear H; intro τ H) | rw [List.length_map]); (refine wX ?_)))
    refine hlook H (k := 6) rfl ?_
    rw [he, Option.map_some, Option.getD_some]
    (refine wX ?_)
    (repeat ((first | refine zI (by omega) ?_ | refine zE (by omega) (by omega) ?_ | refine zD (by omega) (by omega) ?_ | refine zY (by omega) ?_ | refine zN (by omega) ?_ | refine amin ?_ | refine amax ?_ | refine zU (by omega) ?_ | refine z8 (by omega) ?_ | refine zX (by omega) (by omega) ?_ | refine zR rfl ?_ | refine acellA ?_ | (apply zL H; (· repeat first | exact .h | apply AtK.t); (· rfl)) | (apply zA H; (· repeat first | exact .h | apply AtK.t)) | (apply zS H; (· repeat first | exact .h | apply AtK.t); (· rfl); (conv => whnf); clear H; intro τ H) | rw [List.length_map]); (refine wX ?_)))
    replace H := Hp.mid (A := [.o i6 (.cells [i64v p.off, i64v (p.off + (total p.fs : Int))]), .o i3 (.cells (amC p))]) (B := [.o ip (.cells (peC v is e ig fi)), .o is (.cells [spL tk l]), .o ig (.map em)]) (C := .o ib (.cells (buC im)) :: .o im (.map es) :: (E ++ G)) H
    replace H : Hp σb (.o ip (.cells (peC v is e ig fi)) :: .o is (.cells [spL tk l]) :: .o ig (.map em) :: .o i6 (.cells [i64v p.off, i64v (p.off + (total p.fs : Int))]) :: .o i3 (.cells (amC p)) :: .o ib (.cells (buC im)) :: .o im (.map es) :: (E ++ G)) τ := H
    refine acall (peFits (H.get (k := 0) rfl) (H.get (k := 1) rfl) (by have := hs.k; omega) (spanP p) p.last) ?_
    rintro _ σ_ ⟨rfl, e_⟩
    obtain rfl := e_.symm
    refine ⟨?_, Ext.refl _⟩
    (refine wX ?_)
    have hk : putK p l e = if fitsC l e (spanP p) p.last ≠ 0 then fitsC l e (spanP p) p.last else addC (spanP p) l := by unfold putK; rw [if_neg (by rw [hr]; simp), hen]
    by_cases hc : fitsC l e (spanP p) p.last = 0
    case neg =>
      rw [if_pos hc] at hk
      (repeat ((first | refine zI (by omega) ?_ | refine zE (by omega) (by omega) ?_ | refine zD (by omega) (by omega) ?_ | refine zY (by omega) ?_ | refine zN (by omega) ?_ | refine amin ?_ | refine amax ?_ | refine zU (by omega) ?_ | refine z8 (by omega) ?_ | refine zX (by omega) (by omega) ?_ | refine zR rfl ?_ | refine acellA ?_ | (apply zL H; (· repeat first | exact .h | apply AtK.t); (· rfl)) | (apply zA H; (· repeat first | exact .h | apply AtK.t)) | (apply zS H; (· repeat first | exact .h | apply AtK.t); (· rfl); (conv => whnf); clear H; intro τ H) | rw [List.length_map]); (refine wX ?_)))
      exact aret (VLe.refl _) (Sub.refl _) ⟨by rw [hk], .inl ⟨by rw [hk]; exact hc, ⟨tk, Hp.rest (A := [.o i6 (.cells [i64v p.off, i64v (p.off + (total p.fs : Int))]), .o i3 (.cells (amC p))]) (Hp.mid (A := [.o ip (.cells (peC v is e ig fi)), .o is (.cells [spL tk l]), .o ig (.map em)]) (B := [.o i6 (.cells [i64v p.off, i64v (p.off + (total p.fs : Int))]), .o i3 (.cells (amC p))]) (C := .o ib (.cells (buC im)) :: .o im (.map es) :: (E ++ G)) H)⟩⟩⟩
    rw [if_neg (by rw [hc]; simp)] at hk
    rw [hc]
    (refine wX ?_)
    (repeat ((first | refine zI (by omega) ?_ | refine zE (by omega) (by omega) ?_ | refine zD (by omega) (by omega) ?_ | refine zY (by omega) ?_ | refine zN (by omega) ?_ | refine amin ?_ | refine amax ?_ | refine zU (by omega) ?_ | refine z8 (by omega) ?_ | refine zX (by omega) (by omega) ?_ | refine zR rfl ?_ | refine acellA ?_ | (apply zL H; (· repeat first | exact .h | apply AtK.t); (· rfl)) | (apply zA H; (· repeat first | exact .h | apply AtK.t)) | (apply zS H; (· repeat first | exact .h | apply AtK.t); (· rfl); (conv => whnf); clear H; intro τ H) | rw [List.length_map]); (refine wX ?_)))
    refine acall (cloneB (RB.dv (F := [.o ip (.cells (peC v is e ig fi)), .o is (.cells [spL tk l]), .o ig (.map em), .o i6 (.cells [i64v p.off, i64v (p.off + (total p.fs : Int))]), .o i3 (.cells (amC p)), .o ib (.cells (buC im)), .o im (.map es)]) h H) (by omega)) ?_
    rintro v1 υ ⟨E1, h1, N⟩
    refine ⟨?_, N.ext⟩
    replace H := Hp.mid (A := E1) (B := [.o ip (.cells (peC v is e ig fi)), .o is (.cells [spL tk l]), .o ig (.map em), .o i6 (.cells [i64v p.off, i64v (p.off + (total p.fs : Int))]), .o i3 (.cells (amC p)), .o ib (.cells (buC im)), .o im (.map es)]) (C := E ++ G) (H.join N)
    replace H : Hp σb (.o ip (.cells (peC v is e ig fi)) :: .o is (.cells [spL tk l]) :: .o ig (.map em) :: .o i6 (.cells [i64v p.off, i64v (p.off + (total p.fs : Int))]) :: .o i3 (.cells (amC p)) :: .o ib (.cells (buC im)) :: .o im (.map es) :: (E1 ++ (E ++ G))) υ := H
    clear N
    (refine wX ?_)
    (repeat ((first | refine zI (by omega) ?_ | refine zE (by omega) (by omega) ?_ | refine zD (by omega) (by omega) ?_ | refine zY (by omega) ?_ | refine zN (by omega) ?_ | refine amin ?_ | refine amax ?_ | refine zU (by omega) ?_ | refine z8 (by omega) ?_ | refine zX (by omega) (by omega) ?_ | refine zR rfl ?_ | refine acellA ?_ | (apply zL H; (· repeat first | exact .h | apply AtK.t); (· rfl)) | (apply zA H; (· repeat first | exact .h | apply AtK.t)) | (apply zS H; (· repeat first | exact .h | apply AtK.t); (· rfl); (conv => whnf); clear H; intro τ H) | rw [List.length_map]); (refine wX ?_)))
    rw [h1.cells1]
    (refine wX ?_)
    apply zS H
    · exact .h
    · show (v1.isCell && true) = true
      rw [h1.isCell]; rfl
    (conv => whnf)
    clear H
    intro τ H
    (refine wX ?_)
    (repeat ((first | refine zI (by omega) ?_ | refine zE (by omega) (by omega) ?_ | refine zD (by omega) (by omega) ?_ | refine zY (by omega) ?_ | refine zN (by omega) ?_ | refine amin ?_ | refine amax ?_ | refine zU (by omega) ?_ | refine z8 (by omega) ?_ | refine zX (by omega) (by omega) ?_ | refine zR rfl ?_ | refine acellA ?_ | (apply zL H; (· repeat first | exact .h | apply AtK.t); (· rfl)) | (apply zA H; (· repeat first | exact .h | apply AtK.t)) | (apply zS H; (· repeat first | exact .h | apply AtK.t); (· rfl); (conv => whnf); clear H; intro τ H) | rw [List.length_map]); (refine wX ?_)))
    replace H : Hp σb (.o ip (.cells (peC v1 is e ig fi)) :: .o is (.cells [spL tk l]) :: (E1 ++ ([.o ig (.map em), .o i6 (.cells [i64v p.off, i64v (p.off + (total p.fs : Int))]), .o i3 (.cells (amC p)), .o ib (.cells (buC im)), .o im (.map es)] ++ (E ++ G)))) τ :=
      Hp.mid (B := [.o ip (.cells (peC v1 is e ig fi)), .o is (.cells [spL tk l])]) (Hp.mid (A := [.o ip (.cells (peC v1 is e ig fi)), .o is (.cells [spL tk l]), .o ig (.map em), .o i6 (.cells [i64v p.off, i64v (p.off + (total p.fs : Int))]), .o i3 (.cells (amC p)), .o ib (.cells (buC im)), .o im (.map es)]) (B := E1) (C := E ++ G) H)
    refine acall (peFillA h1 H p.off.toNat p.off (by omega) p.fs.flatten hdn (by show p.off.toNat + p.fs.flatten.length ≤ _; omega) hD (by have := hs.k; omega)) ?_
    clear H h1
    rintro _ τ ⟨rfl, v2, E2, h2, H⟩
    replace H : Hp σb (.o ip (.cells (peC v2 is e ig fi)) :: .o is (.cells [spL tk l]) :: .o ig (.map em) :: .o i6 (.cells [i64v p.off, i64v (p.off + (total p.fs : Int))]) :: .o i3 (.cells (amC p)) :: .o ib (.cells (buC im)) :: .o im (.map es) :: (E2 ++ (E ++ G))) τ := Hp.mid2 (A := [.o ip (.cells (peC v2 is e ig fi)), .o is (.cells [spL tk l])]) (B := E2) (C := [.o ig (.map em), .o i6 (.cells [i64v p.off, i64v (p.off + (total p.fs : Int))]), .o i3 (.cells (amC p)), .o ib (.cells (buC im)), .o im (.map es)]) H
    (refine wX ?_)
    (repeat ((first | refine zI (by omega) ?_ | refine zE (by omega) (by omega) ?_ | refine zD (by omega) (by omega) ?_ | refine zY (by omega) ?_ | refine zN (by omega) ?_ | refine amin ?_ | refine amax ?_ | refine zU (by omega) ?_ | refine z8 (by omega) ?_ | refine zX (by omega) (by omega) ?_ | refine zR rfl ?_ | refine acellA ?_ | (apply zL H; (· repeat first | exact .h | apply AtK.t); (· rfl)) | (apply zA H; (· repeat first | exact .h | apply AtK.t)) | (apply zS H; (· repeat first | exact .h | apply AtK.t); (· rfl); (conv => whnf); clear H; intro τ H) | rw [List.length_map]); (refine wX ?_)))
    refine acall (sAdd (H.perm (.swap _ _ _)) (spanP p) (by have := hs.k; omega)) ?_
    clear H
    rintro _ τ ⟨rfl, u, H⟩
    replace H : Hp σb (.o is (.cells [spL u (addS (spanP p) l)]) :: .o ip (.cells (peC v2 is e ig fi)) :: .o ig (.map em) :: .o i6 (.cells [i64v p.off, i64v (p.off + (total p.fs : Int))]) :: .o i3 (.cells (amC p)) :: .o ib (.cells (buC im)) :: .o im (.map es) :: (E2 ++ (E ++ G))) τ := H
    (refine wX ?_)
    by_cases ha : addC (spanP p) l = 0
    case neg =>
      rw [add_no ha] at H
      (repeat ((first | refine zI (by omega) ?_ | refine zE (by omega) (by omega) ?_ | refine zD (by omega) (by omega) ?_ | refine zY (by omega) ?_ | refine zN (by omega) ?_ | refine amin ?_ | refine amax ?_ | refine zU (by omega) ?_ | refine z8 (by omega) ?_ | refine zX (by omega) (by omega) ?_ | refine zR rfl ?_ | refine acellA ?_ | (apply zL H; (· repeat first | exact .h | apply AtK.t); (· rfl)) | (apply zA H; (· repeat first | exact .h | apply AtK.t)) | (apply zS H; (· repeat first | exact .h | apply AtK.t); (· rfl); (conv => whnf); clear H; intro τ H) | rw [List.length_map]); (refine wX ?_)))
      rw [RB.cells1 h]
      (refine wX ?_)
      apply zS H
      · repeat first | exact .h | apply AtK.t
      · show ((v : AVal).isCell && true) = true
        rw [RB.isCell h]; rfl
      (conv => whnf)
      clear H
      intro τ H
      (refine wX ?_)
      have H := Hp.rest (A := E2) (Hp.mid (A := [.o is (.cells [spL u l]), .o ip (.cells (peC v is e ig fi)), .o ig (.map em), .o i6 (.cells [i64v p.off, i64v (p.off + (total p.fs : Int))]), .o i3 (.cells (amC p)), .o ib (.cells (buC im)), .o im (.map es)]) (B := E2) H)
      (repeat ((first | refine zI (by omega) ?_ | refine zE (by omega) (by omega) ?_ | refine zD (by omega) (by omega) ?_ | refine zY (by omega) ?_ | refine zN (by omega) ?_ | refine amin ?_ | refine amax ?_ | refine zU (by omega) ?_ | refine z8 (by omega) ?_ | refine zX (by omega) (by omega) ?_ | refine zR rfl ?_ | refine acellA ?_ | (apply zL H; (· repeat first | exact .h | apply AtK.t); (· rfl)) | (apply zA H; (· repeat first | exact .h | apply AtK.t)) | (apply zS H; (· repeat first | exact .h | apply AtK.t); (· rfl); (conv => whnf); clear H; intro τ H) | rw [List.length_map]); (refine wX ?_)))
      exact aret (VLe.refl _) (Sub.refl _) ⟨by rw [hk], .inl ⟨by rw [hk]; exact ha, ⟨u, Hp.rest (A := [.o i6 (.cells [i64v p.off, i64v (p.off + (total p.fs : Int))]), .o i3 (.cells (amC p))]) (Hp.mid (A := [.o ip (.cells (peC v is e ig fi)), .o is (.cells [spL u l]), .o ig (.map em)]) (B := [.o i6 (.cells [i64v p.off, i64v (p.off + (total p.fs : Int))]), .o i3 (.cells (amC p))]) (C := .o ib (.cells (buC im)) :: .o im (.map es) :: (E ++ G)) (H.perm (.swap _ _ _)))⟩⟩⟩
    rw [ha]
    (refine wX ?_)
    (repeat ((first | refine zI (by omega) ?_ | refine zE (by omega) (by omega) ?_ | refine zD (by omega) (by omega) ?_ | refine zY (by omega) ?_ | refine zN (by omega) ?_ | refine amin ?_ | refine amax ?_ | refine zU (by omega) ?_ | refine z8 (by omega) ?_ | refine zX (by omega) (by omega) ?_ | refine zR rfl ?_ | refine acellA ?_ | (apply zL H; (· repeat first | exact .h | apply AtK.t); (· rfl)) | (apply zA H; (· repeat first | exact .h | apply AtK.t)) | (apply zS H; (· repeat first | exact .h | apply AtK.t); (· rfl); (conv => whnf); clear H; intro τ H) | rw [List.length_map]); (refine wX ?_)))
    replace H : Hp σb (.o ip (.cells (peC v2 is e ig fi)) :: .o ig (.map em) :: .o is (.cells [spL u (addS (spanP p) l)]) :: (.o i6 (.cells [i64v p.off, i64v (p.off + (total p.fs : Int))]) :: .o i3 (.cells (amC p)) :: .o ib (.cells (buC im)) :: .o im (.map es) :: (E2 ++ (E ++ G)))) τ := H.perm (.trans (.swap _ _ _) (.cons _ (.swap _ _ _)))
    refine acall (peNote H h2.isCell p p.last (by omega) (by omega) (by omega)) ?_
    clear H
    rintro _ τ ⟨rfl, H⟩
    (refine wX ?_)
    (repeat ((first | refine zI (by omega) ?_ | refine zE (by omega) (by omega) ?_ | refine zD (by omega) (by omega) ?_ | refine zY (by omega) ?_ | refine zN (by omega) ?_ | refine amin ?_ | refine amax ?_ | refine zU (by omega) ?_ | refine z8 (by omega) ?_ | refine zX (by omega) (by omega) ?_ | refine zR rfl ?_ | refine acellA ?_ | (apply zL H; (· repeat first | exact .h | apply AtK.t); (· rfl)) | (apply zA H; (· repeat first | exact .h | apply AtK.t)) | (apply zS H; (· repeat first | exact .h | apply AtK.t); (· rfl); (conv => whnf); clear H; intro τ H) | rw [List.length_map]); (refine wX ?_)))
    apply zMs H
    · (repeat first | exact .h | apply AtK.t)
    · rfl
    (conv => whnf)
    clear H
    intro τ H
    (refine wX ?_)
    rw [mapSet_same he] at H
    (repeat ((first | refine zI (by omega) ?_ | refine zE (by omega) (by omega) ?_ | refine zD (by omega) (by omega) ?_ | refine zY (by omega) ?_ | refine zN (by omega) ?_ | refine amin ?_ | refine amax ?_ | refine zU (by omega) ?_ | refine z8 (by omega) ?_ | refine zX (by omega) (by omega) ?_ | refine zR rfl ?_ | refine acellA ?_ | (apply zL H; (· repeat first | exact .h | apply AtK.t); (· rfl)) | (apply zA H; (· repeat first | exact .h | apply AtK.t)) | (apply zS H; (· repeat first | exact .h | apply AtK.t); (· rfl); (conv => whnf); clear H; intro τ H) | rw [List.length_map]); (refine wX ?_)))
    rw [hen]
    exact aret (VLe.refl _) (Sub.refl _) ⟨by rw [hk, ha], .inr ⟨by rw [hk, ha], ⟨v2, E2, u, h2, (Hp.rest (A := E) (Hp.mid (A := .o ip (.cells (peC v2 is (noteE p p.last e) ig (noteF p p.last fi))) :: .o ig (.map (noteM p p.last em)) :: .o is (.cells [spL u (addS (spanP p) l)]) :: .o ib (.cells (buC im)) :: .o im (.map es) :: E2) (B := E) (C := G) (Hp.rest (A := [.o i6 (.cells [i64v p.off, i64v (p.off + (total p.fs : Int))]), .o i3 (.cells (amC p))]) (Hp.mid (A := [.o ip (.cells (peC v2 is (noteE p p.last e) ig (noteF p p.last fi))), .o ig (.map (noteM p p.last em)), .o is (.cells [spL u (addS (spanP p) l)])]) (B := [.o i6 (.cells [i64v p.off, i64v (p.off + (total p.fs : Int))]), .o i3 (.cells (amC p))]) (C := .o ib (.cells (buC im)) :: .o im (.map es) :: (E2 ++ (E ++ G))) H)))).perm (.cons _ (.swap _ _ _))⟩⟩⟩

set_option maxHeartbeats 8000000 in
theorem buPutNew (H : Hp σb (.o ib (.cells (buC im)) :: .o im (.map es) :: G) σ) (p : Pk) (hf : es.find? (fun e => e.1 == p.sn) = none) (hl : p.fs.length ≤ 1000) (ht : total p.fs ≤ 1000000) :
    ACalls Try.prog i_rxbuf_Buffer_Put [.ptr ib 0, amV p] σ fun r σ' => r = i64v (putK p [] (-1)) ∧
      ((putK p [] (-1) ≠ 0 ∧ Hp σb (.o ib (.cells (buC im)) :: .o im (.map es) :: G) σ') ∨
       (putK p [] (-1) = 0 ∧ ∃ ip is ig v2 E2 u, RB v2 (fillB [] p.off.toNat p.fs.flatten []) E2 ∧ Hp σb (.o ip (.cells (peC v2 is (noteE p (endsB p) (-1)) ig (noteF p (endsB p) 0))) :: .o is (.cells [spL u (addS (spanP p) [])]) :: .o ig (.map (noteM p (endsB p) [])) :: .o ib (.cells (buC im)) :: .o im (.map (es ++ [(p.sn, .ptr ip 0)])) :: (E2 ++ G)) σ')) := by
  refine k_rxbuf_Buffer_Put rfl ?_
  (refine wX ?_)
  refine hnew H rfl ?_
  clear H
  intro i3 τ H
  (refine wX ?_)
  refine acall (buMade (H.get (k := 1) rfl)) ?_
  rintro _ σ_ ⟨rfl, e_⟩
  obtain rfl := e_.symm
  refine ⟨?_, Ext.refl _⟩
  (refine wX ?_)
  (repeat ((first | refine zI (by omega) ?_ | refine zE (by omega) (by omega) ?_ | refine zD (by omega) (by omega) ?_ | refine zY (by omega) ?_ | refine zN (by omega) ?_ | refine amin ?_ | refine amax ?_ | refine zU (by omega) ?_ | refine z8 (by omega) ?_ | refine zX (by omega) (by omega) ?_ | refine zR rfl ?_ | refine acellA ?_ | (apply zL H; (· repeat first | exact .h | apply AtK.t); (· rfl)) | (apply zA H; (· repeat first | exact .h | apply AtK.t)) | (apply zS H; (· repeat first | exact .h | apply AtK.t); (· rfl); (conv => whnf); clear H; intro τ H) | rw [List.length_map]); (refine wX ?_)))
  refine acall (buRight p τ hl (by omega)) ?_
  rintro _ σ_ ⟨rfl, e_⟩
  obtain rfl := e_.symm
  refine ⟨?_, Ext.refl _⟩
  (refine wX ?_)
  rcases (show rightB p = false ∨ rightB p = true by cases rightB p <;> simp) with hr | hr
  · have hk : putK p [] (-1) = 1 := by unfold putK; rw [if_pos hr]
    rw [hr]
    (refine wX ?_)
    (repeat ((first | refine zI (by omega) ?_ | refine zE (by omega) (by omega) ?_ | refine zD (by omega) (by omega) ?_ | refine zY (by omega) ?_ | refine zN (by omega) ?_ | refine amin ?_ | refine amax ?_ | refine zU (by omega) ?_ | refine z8 (by omega) ?_ | refine zX (by omega) (by omega) ?_ | refine zR rfl ?_ | refine acellA ?_ | (apply zL H; (· repeat first | exact .h | apply AtK.t); (· rfl)) | (apply zA H; (· repeat first | exact .h | apply AtK.t)) | (apply zS H; (· repeat first | exact .h | apply AtK.t); (· rfl); (conv => whnf); clear H; intro τ H) | rw [List.length_map]); (refine wX ?_)))
    exact aret (VLe.refl _) (Sub.refl _) ⟨by rw [hk], .inl ⟨by rw [hk]; decide, H.tail⟩⟩
  rw [hr]
  obtain ⟨g1, g2, g3, g4, g5, g6, g7, g8, g9⟩ := right_ok hr
  have gp := right_pos hr
  have hdn : p.fs.flatten ≠ [] := fun h => by have : total p.fs = 0 := by unfold total; rw [h]; rfl
                                              omega
  have htl : p.fs.flatten.length = total p.fs := rfl
  (refine wX ?_)
  (repeat ((first | refine zI (by omega) ?_ | refine zE (by omega) (by omega) ?_ | refine zD (by omega) (by omega) ?_ | refine zY (by omega) ?_ | refine zN (by omega) ?_ | refine amin ?_ | refine amax ?_ | refine zU (by omega) ?_ | refine z8 (by omega) ?_ | refine zX (by omega) (by omega) ?_ | refine zR rfl ?_ | refine acellA ?_ | (apply zL H; (· repeat first | exact .h | apply AtK.t); (· rfl)) | (apply zA H; (· repeat first | exact .h | apply AtK.t)) | (apply zS H; (· repeat first | exact .h | apply AtK.t); (· rfl); (conv => whnf); clear H; intro τ H) | rw [List.length_map]); (refine wX ?_)))
  refine acall (aData p τ hl (by omega)) ?_
  rintro _ σ_ ⟨rfl, e_⟩
  obtain rfl := e_.symm
  refine ⟨?_, Ext.refl _⟩
  (refine wX ?_)
  (repeat ((first | refine zI (by omega) ?_ | refine zE (by omega) (by omega) ?_ | refine zD (by omega) (by omega) ?_ | refine zY (by omega) ?_ | refine zN (by omega) ?_ | refine amin ?_ | refine amax ?_ | refine zU (by omega) ?_ | refine z8 (by omega) ?_ | refine zX (by omega) (by omega) ?_ | refine zR rfl ?_ | refine acellA ?_ | (apply zL H; (· repeat first | exact .h | apply AtK.t); (· rfl)) | (apply zA H; (· repeat first | exact .h | apply AtK.t)) | (apply zS H; (· repeat first | exact .h | apply AtK.t); (· rfl); (conv => whnf); clear H; intro τ H) | rw [List.length_map]); (refine wX ?_)))
  refine hnew H rfl ?_
  clear H
  intro i6 τ H
  (refine wX ?_)
  (repeat ((first | refine zI (by omega) ?_ | refine zE (by omega) (by omega) ?_ | refine zD (by omega) (by omega) ?_ | refine zY (by omega) ?_ | refine zN (by omega) ?_ | refine amin ?_ | refine amax ?_ | refine zU (by omega) ?_ | refine z8 (by omega) ?_ | refine zX (by omega) (by omega) ?_ | refine zR rfl ?_ | refine acellA ?_ | (apply zL H; (· repeat first | exact .h | apply AtK.t); (· rfl)) | (apply zA H; (· repeat first | exact .h | apply AtK.t)) | (apply zS H; (· repeat first | exact .h | apply AtK.t); (· rfl); (conv => whnf); clear H; intro τ H) | rw [List.length_map]); (refine wX ?_)))
  rcases (show p.part = false ∨ p.part = true by cases p.part <;> simp) with hp | hp
  · have hen : endsB p = true := by unfold endsB; rw [hp]; rfl
    refine abr_true (show (!p.part) = true by rw [hp]; rfl) ?_
    (refine wX ?_)
    (repeat ((first | refine zI (by omega) ?_ | refine zE (by omega) (by omega) ?_ | refine zD (by omega) (by omega) ?_ | refine zY (by omega) ?_ | refine zN (by omega) ?_ | refine amin ?_ | refine amax ?_ | refine zU (by omega) ?_ | refine z8 (by omega) ?_ | refine zX (by omega) (by omega) ?_ | refine zR rfl ?_ | refine acellA ?_ | (apply zL H; (· repeat first | exact .h | apply AtK.t); (· rfl)) | (apply zA H; (· repeat first | exact .h | apply AtK.t)) | (apply zS H; (· repeat first | exact .h | apply AtK.t); (· rfl); (conv => whnf); clear H; intro τ H) | rw [List.length_map]); (refine wX ?_)))
    refine hlook H (k := 3) rfl ?_
    rw [hf]
    (refine wX ?_)
    (repeat ((first | refine zI (by omega) ?_ | refine zE (by omega) (by omega) ?_ | refine zD (by omega) (by omega) ?_ | refine zY (by omega) ?_ | refine zN (by omega) ?_ | refine amin ?_ | refine amax ?_ | refine zU (by omega) ?_ | refine z8 (by omega) ?_ | refine zX (by omega) (by omega) ?_ | refine zR rfl ?_ | refine acellA ?_ | (apply zL H; (· repeat first | exact .h | apply AtK.t); (· rfl)) | (apply zA H; (· repeat first | exact .h | apply AtK.t)) | (apply zS H; (· repeat first | exact .h | apply AtK.t); (· rfl); (conv => whnf); clear H; intro τ H) | rw [List.length_map]); (refine wX ?_)))
    refine acall (sNew [] .full τ (by simp)) ?_
    rintro _ σ2 (⟨h, _⟩ | ⟨_, is, u0, rfl, N⟩)
    · exact (h rfl).elim
    refine ⟨?_, N.ext⟩
    replace H := H.join N
    clear N
    (refine wX ?_)
    (repeat ((first | refine zI (by omega) ?_ | refine zE (by omega) (by omega) ?_ | refine zD (by omega) (by omega) ?_ | refine zY (by omega) ?_ | refine zN (by omega) ?_ | refine amin ?_ | refine amax ?_ | refine zU (by omega) ?_ | refine z8 (by omega) ?_ | refine zX (by omega) (by omega) ?_ | refine zR rfl ?_ | refine acellA ?_ | (apply zL H; (· repeat first | exact .h | apply AtK.t); (· rfl)) | (apply zA H; (· repeat first | exact .h | apply AtK.t)) | (apply zS H; (· repeat first | exact .h | apply AtK.t); (· rfl); (conv => whnf); clear H; intro τ H) | rw [List.length_map]); (refine wX ?_)))
    refine hnewmap H ?_
    clear H
    intro ig τ H
    (refine wX ?_)
    (repeat ((first | refine zI (by omega) ?_ | refine zE (by omega) (by omega) ?_ | refine zD (by omega) (by omega) ?_ | refine zY (by omega) ?_ | refine zN (by omega) ?_ | refine amin ?_ | refine amax ?_ | refine zU (by omega) ?_ | refine z8 (by omega) ?_ | refine zX (by omega) (by omega) ?_ | refine zR rfl ?_ | refine acellA ?_ | (apply zL H; (· repeat first | exact .h | apply AtK.t); (· rfl)) | (apply zA H; (· repeat first | exact .h | apply AtK.t)) | (apply zS H; (· repeat first | exact .h | apply AtK.t); (· rfl); (conv => whnf); clear H; intro τ H) | rw [List.length_map]); (refine wX ?_)))
    refine hnew H rfl ?_
    clear H
    intro ip τ H
    (refine wX ?_)
    (repeat ((first | refine zI (by omega) ?_ | refine zE (by omega) (by omega) ?_ | refine zD (by omega) (by omega) ?_ | refine zY (by omega) ?_ | refine zN (by omega) ?_ | refine amin ?_ | refine amax ?_ | refine zU (by omega) ?_ | refine z8 (by omega) ?_ | refine zX (by omega) (by omega) ?_ | refine zR rfl ?_ | refine acellA ?_ | (apply zL H; (· repeat first | exact .h | apply AtK.t); (· rfl)) | (apply zA H; (· repeat first | exact .h | apply AtK.t)) | (apply zS H; (· repeat first | exact .h | apply AtK.t); (· rfl); (conv => whnf); clear H; intro τ H) | rw [List.length_map]); (refine wX ?_)))
    replace H : Hp σb (.o ip (.cells (peC (.slice 1 [] .full) is (-1) ig 0)) :: .o is (.cells [spL u0 []]) :: .o ig (.map []) :: .o i6 (.cells [i64v p.off, i64v (p.off + (total p.fs : Int))]) :: .o i3 (.cells (amC p)) :: .o ib (.cells (buC im)) :: .o im (.map es) :: ([] ++ G)) τ := H.perm (.cons _ (.swap _ _ _))
    refine acall (peFits (H.get (k := 0) rfl) (H.get (k := 1) rfl) (by have := SOk.nil.k; omega) (spanP p) true) ?_
    rintro _ σ_ ⟨rfl, e_⟩
    obtain rfl := e_.symm
    refine ⟨?_, Ext.refl _⟩
    (refine wX ?_)
    have hk : putK p [] (-1) = if fitsC [] (-1) (spanP p) true ≠ 0 then fitsC [] (-1) (spanP p) true else addC (spanP p) [] := by unfold putK; rw [if_neg (by rw [hr]; simp), hen]
    by_cases hc : fitsC [] (-1) (spanP p) true = 0
    case neg =>
      rw [if_pos hc] at hk
      (repeat ((first | refine zI (by omega) ?_ | refine zE (by omega) (by omega) ?_ | refine zD (by omega) (by omega) ?_ | refine zY (by omega) ?_ | refine zN (by omega) ?_ | refine amin ?_ | refine amax ?_ | refine zU (by omega) ?_ | refine z8 (by omega) ?_ | refine zX (by omega) (by omega) ?_ | refine zR rfl ?_ | refine acellA ?_ | (apply zL H; (· repeat first | exact .h | apply AtK.t); (· rfl)) | (apply zA H; (· repeat first | exact .h | apply AtK.t)) | (apply zS H; (· repeat first | exact .h | apply AtK.t); (· rfl); (conv => whnf); clear H; intro τ H) | rw [List.length_map]); (refine wX ?_)))
      exact aret (VLe.refl _) (Sub.refl _) ⟨by rw [hk], .inl ⟨by rw [hk]; exact hc, Hp.rest (A := [.o ip (.cells (peC (.slice 1 [] .full) is (-1) ig 0)), .o is (.cells [spL u0 []]), .o ig (.map [])] ++ [.o i6 (.cells [i64v p.off, i64v (p.off + (total p.fs : Int))]), .o i3 (.cells (amC p))]) H⟩⟩
    rw [if_neg (by rw [hc]; simp)] at hk
    rw [hc]
    (refine wX ?_)
    (repeat ((first | refine zI (by omega) ?_ | refine zE (by omega) (by omega) ?_ | refine zD (by omega) (by omega) ?_ | refine zY (by omega) ?_ | refine zN (by omega) ?_ | refine amin ?_ | refine amax ?_ | refine zU (by omega) ?_ | refine z8 (by omega) ?_ | refine zX (by omega) (by omega) ?_ | refine zR rfl ?_ | refine acellA ?_ | (apply zL H; (· repeat first | exact .h | apply AtK.t); (· rfl)) | (apply zA H; (· repeat first | exact .h | apply AtK.t)) | (apply zS H; (· repeat first | exact .h | apply AtK.t); (· rfl); (conv => whnf); clear H; intro τ H) | rw [List.length_map]); (refine wX ?_)))
    refine acall (cloneB (RB.dv (F := [.o ip (.cells (peC (.slice 1 [] .full) is (-1) ig 0)), .o is (.cells [spL u0 []]), .o ig (.map []), .o i6 (.cells [i64v p.off, i64v (p.off + (total p.fs : Int))]), .o i3 (.cells (amC p)), .o ib (.cells (buC im)), .o im (.map es)]) RB.nil H) (by simp)) ?_
    rintro v1 υ ⟨E1, h1, N⟩
    refine ⟨?_, N.ext⟩
    replace H := Hp.mid (A := E1) (B := [.o ip (.cells (peC (.slice 1 [] .full) is (-1) ig 0)), .o is (.cells [spL u0 []]), .o ig (.map []), .o i6 (.cells [i64v p.off, i64v (p.off + (total p.fs : Int))]), .o i3 (.cells (amC p)), .o ib (.cells (buC im)), .o im (.map es)]) (C := ([] : List HE) ++ G) (H.join N)
    replace H : Hp σb (.o ip (.cells (peC (.slice 1 [] .full) is (-1) ig 0)) :: .o is (.cells [spL u0 []]) :: .o ig (.map []) :: .o i6 (.cells [i64v p.off, i64v (p.off + (total p.fs : Int))]) :: .o i3 (.cells (amC p)) :: .o ib (.cells (buC im)) :: .o im (.map es) :: (E1 ++ (([] : List HE) ++ G))) υ := H
    clear N
    (refine wX ?_)
    (repeat ((first | refine zI (by omega) ?_ | refine zE (by omega) (by omega) ?_ | refine zD (by omega) (by omega) ?_ | refine zY (by omega) ?_ | refine zN (by omega) ?_ | refine amin ?_ | refine amax ?_ | refine zU (by omega) ?_ | refine z8 (by omega) ?_ | refine zX (by omega) (by omega) ?_ | refine zR rfl ?_ | refine acellA ?_ | (apply zL H; (· repeat first | exact .h | apply AtK.t); (· rfl)) | (apply zA H; (· repeat first | exact .h | apply AtK.t)) | (apply zS H; (· repeat first | exact .h | apply AtK.t); (· rfl); (conv => whnf); clear H; intro τ H) | rw [List.length_map]); (refine wX ?_)))
    rw [h1.cells1]
    (refine wX ?_)
    apply zS H
    · exact .h
    · show (v1.isCell && true) = true
      rw [h1.isCell]; rfl
    (conv => whnf)
    clear H
    intro τ H
    (refine wX ?_)
    (repeat ((first | refine zI (by omega) ?_ | refine zE (by omega) (by omega) ?_ | refine zD (by omega) (by omega) ?_ | refine zY (by omega) ?_ | refine zN (by omega) ?_ | refine amin ?_ | refine amax ?_ | refine zU (by omega) ?_ | refine z8 (by omega) ?_ | refine zX (by omega) (by omega) ?_ | refine zR rfl ?_ | refine acellA ?_ | (apply zL H; (· repeat first | exact .h | apply AtK.t); (· rfl)) | (apply zA H; (· repeat first | exact .h | apply AtK.t)) | (apply zS H; (· repeat first | exact .h | apply AtK.t); (· rfl); (conv => whnf); clear H; intro τ H) | rw [List.length_map]); (refine wX ?_)))
    replace H : Hp σb (.o ip (.cells (peC v1 is (-1) ig 0)) :: .o is (.cells [spL u0 []]) :: (E1 ++ ([.o ig (.map []), .o i6 (.cells [i64v p.off, i64v (p.off + (total p.fs : Int))]), .o i3 (.cells (amC p)), .o ib (.cells (buC im)), .o im (.map es)] ++ (([] : List HE) ++ G)))) τ :=
      Hp.mid (B := [.o ip (.cells (peC v1 is (-1) ig 0)), .o is (.cells [spL u0 []])]) (Hp.mid (A := [.o ip (.cells (peC v1 is (-1) ig 0)), .o is (.cells [spL u0 []]), .o ig (.map []), .o i6 (.cells [i64v p.off, i64v (p.off + (total p.fs : Int))]), .o i3 (.cells (amC p)), .o ib (.cells (buC im)), .o im (.map es)]) (B := E1) (C := ([] : List HE) ++ G) H)
    refine acall (peFillA h1 H p.off.toNat p.off (by omega) p.fs.flatten hdn (by show p.off.toNat + p.fs.flatten.length ≤ _; omega) (by simp) (by have := SOk.nil.k; omega)) ?_
    clear H h1
    rintro _ τ ⟨rfl, v2, E2, h2, H⟩
    replace H : Hp σb (.o ip (.cells (peC v2 is (-1) ig 0)) :: .o is (.cells [spL u0 []]) :: .o ig (.map []) :: .o i6 (.cells [i64v p.off, i64v (p.off + (total p.fs : Int))]) :: .o i3 (.cells (amC p)) :: .o ib (.cells (buC im)) :: .o im (.map es) :: (E2 ++ (([] : List HE) ++ G))) τ := Hp.mid2 (A := [.o ip (.cells (peC v2 is (-1) ig 0)), .o is (.cells [spL u0 []])]) (B := E2) (C := [.o ig (.map []), .o i6 (.cells [i64v p.off, i64v (p.off + (total p.fs : Int))]), .o i3 (.cells (amC p)), .o ib (.cells (buC im)), .o im (.map es)]) H
    (refine wX ?_)
    (repeat ((first | refine zI (by omega) ?_ | refine zE (by omega) (by omega) ?_ | refine zD (by omega) (by omega) ?_ | refine zY (by omega) ?_ | refine zN (by omega) ?_ | refine amin ?_ | refine amax ?_ | refine zU (by omega) ?_ | refine z8 (by omega) ?_ | refine zX (by omega) (by omega) ?_ | refine zR rfl ?_ | refine acellA ?_ | (apply zL H; (· repeat first | exact .h | apply AtK.t); (· rfl)) | (apply zA H; (· repeat first | exact .h | apply AtK.t)) | (apply zS H; (· repeat first | exact .h | apply AtK.t); (· rfl); (conv => whnf); clear H; intro τ H) | rw [List.length_map]); (refine wX ?_)))
    refine acall (sAdd (H.perm (.swap _ _ _)) (spanP p) (by have := SOk.nil.k; omega)) ?_
    clear H
    rintro _ τ ⟨rfl, u, H⟩
    replace H : Hp σb (.o is (.cells [spL u (addS (spanP p) [])]) :: .o ip (.cells (peC v2 is (-1) ig 0)) :: .o ig (.map []) :: .o i6 (.cells [i64v p.off, i64v (p.off + (total p.fs : Int))]) :: .o i3 (.cells (amC p)) :: .o ib (.cells (buC im)) :: .o im (.map es) :: (E2 ++ (([] : List HE) ++ G))) τ := H
    (refine wX ?_)
    by_cases ha : addC (spanP p) [] = 0
    case neg =>
      rw [add_no ha] at H
      (repeat ((first | refine zI (by omega) ?_ | refine zE (by omega) (by omega) ?_ | refine zD (by omega) (by omega) ?_ | refine zY (by omega) ?_ | refine zN (by omega) ?_ | refine amin ?_ | refine amax ?_ | refine zU (by omega) ?_ | refine z8 (by omega) ?_ | refine zX (by omega) (by omega) ?_ | refine zR rfl ?_ | refine acellA ?_ | (apply zL H; (· repeat first | exact .h | apply AtK.t); (· rfl)) | (apply zA H; (· repeat first | exact .h | apply AtK.t)) | (apply zS H; (· repeat first | exact .h | apply AtK.t); (· rfl); (conv => whnf); clear H; intro τ H) | rw [List.length_map]); (refine wX ?_)))
      have H := Hp.rest (A := E2) (Hp.mid (A := [.o is (.cells [spL u []]), .o ip (.cells (peC (.slice 1 [] .full) is (-1) ig 0)), .o ig (.map []), .o i6 (.cells [i64v p.off, i64v (p.off + (total p.fs : Int))]), .o i3 (.cells (amC p)), .o ib (.cells (buC im)), .o im (.map es)]) (B := E2) H)
      (repeat ((first | refine zI (by omega) ?_ | refine zE (by omega) (by omega) ?_ | refine zD (by omega) (by omega) ?_ | refine zY (by omega) ?_ | refine zN (by omega) ?_ | refine amin ?_ | refine amax ?_ | refine zU (by omega) ?_ | refine z8 (by omega) ?_ | refine zX (by omega) (by omega) ?_ | refine zR rfl ?_ | refine acellA ?_ | (apply zL H; (· repeat first | exact .h | apply AtK.t); (· rfl)) | (apply zA H; (· repeat first | exact .h | apply AtK.t)) | (apply zS H; (· repeat first | exact .h | apply AtK.t); (· rfl); (conv => whnf); clear H; intro τ H) | rw [List.length_map]); (refine wX ?_)))
      exact aret (VLe.refl _) (Sub.refl _) ⟨by rw [hk], .inl ⟨by rw [hk]; exact ha, Hp.rest (A := [.o is (.cells [spL u []]), .o ip (.cells (peC (.slice 1 [] .full) is (-1) ig 0)), .o ig (.map [])] ++ [.o i6 (.cells [i64v p.off, i64v (p.off + (total p.fs : Int))]), .o i3 (.cells (amC p))]) H⟩⟩
    rw [ha]
    (refine wX ?_)
    (repeat ((first | refine zI (by omega) ?_ | refine zE (by omega) (by omega) ?_ | refine zD (by omega) (by omega) ?_ | refine zY (by omega) ?_ | refine zN (by omega) ?_ | refine amin ?_ | refine amax ?_ | refine zU (by omega) ?_ | refine z8 (by omega) ?_ | refine zX (by omega) (by omega) ?_ | refine zR rfl ?_ | refine acellA ?_ | (apply zL H; (· repeat first | exact .h | apply AtK.t); (· rfl)) | (apply zA H; (· repeat first | exact .h | apply AtK.t)) | (apply zS H; (· repeat first | exact .h | apply AtK.t); (· rfl); (conv => whnf); clear H; intro τ H) | rw [List.length_map]); (refine wX ?_)))
    replace H : Hp σb (.o ip (.cells (peC v2 is (-1) ig 0)) :: .o ig (.map []) :: .o is (.cells [spL u (addS (spanP p) [])]) :: (.o i6 (.cells [i64v p.off, i64v (p.off + (total p.fs : Int))]) :: .o i3 (.cells (amC p)) :: .o ib (.cells (buC im)) :: .o im (.map es) :: (E2 ++ (([] : List HE) ++ G)))) τ := H.perm (.trans (.swap _ _ _) (.cons _ (.swap _ _ _)))
    refine acall (peNote H h2.isCell p true (by omega) (by omega) (by omega)) ?_
    clear H
    rintro _ τ ⟨rfl, H⟩
    (refine wX ?_)
    (repeat ((first | refine zI (by omega) ?_ | refine zE (by omega) (by omega) ?_ | refine zD (by omega) (by omega) ?_ | refine zY (by omega) ?_ | refine zN (by omega) ?_ | refine amin ?_ | refine amax ?_ | refine zU (by omega) ?_ | refine z8 (by omega) ?_ | refine zX (by omega) (by omega) ?_ | refine zR rfl ?_ | refine acellA ?_ | (apply zL H; (· repeat first | exact .h | apply AtK.t); (· rfl)) | (apply zA H; (· repeat first | exact .h | apply AtK.t)) | (apply zS H; (· repeat first | exact .h | apply AtK.t); (· rfl); (conv => whnf); clear H; intro τ H) | rw [List.length_map]); (refine wX ?_)))
    apply zMs H
    · (repeat first | exact .h | apply AtK.t)
    · rfl
    (conv => whnf)
    clear H
    intro τ H
    (refine wX ?_)
    rw [mapSet_new hf] at H
    (repeat ((first | refine zI (by omega) ?_ | refine zE (by omega) (by omega) ?_ | refine zD (by omega) (by omega) ?_ | refine zY (by omega) ?_ | refine zN (by omega) ?_ | refine amin ?_ | refine amax ?_ | refine zU (by omega) ?_ | refine z8 (by omega) ?_ | refine zX (by omega) (by omega) ?_ | refine zR rfl ?_ | refine acellA ?_ | (apply zL H; (· repeat first | exact .h | apply AtK.t); (· rfl)) | (apply zA H; (· repeat first | exact .h | apply AtK.t)) | (apply zS H; (· repeat first | exact .h | apply AtK.t); (· rfl); (conv => whnf); clear H; intro τ H) | rw [List.length_map]); (refine wX ?_)))
    rw [hen]
    exact aret (VLe.refl _) (Sub.refl _) ⟨by rw [hk, ha], .inr ⟨by rw [hk, ha], ⟨ip, is, ig, v2, E2, u, h2, (Hp.rest (A := [.o i6 (.cells [i64v p.off, i64v (p.off + (total p.fs : Int))]), .o i3 (.cells (amC p))]) (Hp.mid (A := [.o ip (.cells (peC v2 is (noteE p true (-1)) ig (noteF p true 0))), .o ig (.map (noteM p true [])), .o is (.cells [spL u (addS (spanP p) [])])]) (B := [.o i6 (.cells [i64v p.off, i64v (p.off + (total p.fs : Int))]), .o i3 (.cells (amC p))]) (C := .o ib (.cells (buC im)) :: .o im (.map (es ++ [(p.sn, AVal.ptr ip 0)])) :: (E2 ++ G)) H)).perm (.cons _ (.swap _ _ _))⟩⟩⟩
  · have hen : endsB p = p.last := by unfold endsB; rw [hp]; rfl
    refine abr_false (show (!p.part) = false by rw [hp]; rfl) ?_
    (refine wX ?_)
    (repeat ((first | refine zI (by omega) ?_ | refine zE (by omega) (by omega) ?_ | refine zD (by omega) (by omega) ?_ | refine zY (by omega) ?_ | refine zN (by omega) ?_ | refine amin ?_ | refine amax ?_ | refine zU (by omega) ?_ | refine z8 (by omega) ?_ | refine zX (by omega) (by omega) ?_ | refine zR rfl ?_ | refine acellA ?_ | (apply zL H; (· repeat first | exact .h | apply AtK.t); (· rfl)) | (apply zA H; (· repeat first | exact .h | apply AtK.t)) | (apply zS H; (· repeat first | exact .h | apply AtK.t); (· rfl); (conv => whnf); clear H; intro τ H) | rw [List.length_map]); (refine wX ?_)))
    refine hlook H (k := 3) rfl ?_
    rw [hf]
    (refine wX ?_)
    (repeat ((first | refine zI (by omega) ?_ | refine zE (by omega) (by omega) ?_ | refine zD (by omega) (by omega) ?_ | refine zY (by omega) ?_ | refine zN (by omega) ?_ | refine amin ?_ | refine amax ?_ | refine zU (by omega) ?_ | refine z8 (by omega) ?_ | refine zX (by omega) (by omega) ?_ | refine zR rfl ?_ | refine acellA ?_ | (apply zL H; (· repeat first | exact .h | apply AtK.t); (· rfl)) | (apply zA H; (· repeat first | exact .h | apply AtK.t)) | (apply zS H; (· repeat first | exact .h | apply AtK.t); (· rfl); (conv => whnf); clear H; intro τ H) | rw [List.length_map]); (refine wX ?_)))
    refine acall (sNew [] .full τ (by simp)) ?_
    rintro _ σ2 (⟨h, _⟩ | ⟨_, is, u0, rfl, N⟩)
    · exact (h rfl).elim
    refine ⟨?_, N.ext⟩
    replace H := H.join N
    clear N
    (refine wX ?_)
    (repeat ((first | refine zI (by omega) ?_ | refine zE (by omega) (by omega) ?_ | refine zD (by omega) (by omega) ?_ | refine zY (by omega) ?_ | refine zN (by omega) ?_ | refine amin ?_ | refine amax ?_ | refine zU (by omega) ?_ | refine z8 (by omega) ?_ | refine zX (by omega) (by omega) ?_ | refine zR rfl ?_ | refine acellA ?_ | (apply zL H; (· repeat first | exact .h | apply AtK.t); (· rfl)) | (apply zA H; (· repeat first | exact .h | apply AtK.t)) | (apply zS H; (· repeat first | exact .h | apply AtK.t); (· rfl); (conv => whnf); clear H; intro τ H) | rw [List.length_map]); (refine wX ?_)))
    refine hnewmap H ?_
    clear H
    intro ig τ H
    (refine wX ?_)
    (repeat ((first | refine zI (by omega) ?_ | refine zE (by omega) (by omega) ?_ | refine zD (by omega) (by omega) ?_ | refine zY (by omega) ?_ | refine zN (by omega) ?_ | refine amin ?_ | refine amax ?_ | refine zU (by omega) ?_ | refine z8 (by omega) ?_ | refine zX (by omega) (by omega) ?_ | refine zR rfl ?_ | refine acellA ?_ | (apply zL H; (· repeat first | exact .h | apply AtK.t); (· rfl)) | (apply zA H; (· repeat first | exact .h | apply AtK.t)) | (apply zS H; (· repeat first | exact .h | apply AtK.t); (· rfl); (conv => whnf); clear H; intro τ H) | rw [List.length_map]); (refine wX ?_)))
    refine hnew H rfl ?_
    clear H
    intro ip τ H
    (refine wX ?_)
    (repeat ((first | refine zI (by omega) ?_ | refine zE (by omega) (by omega) ?_ | refine zD (by omega) (by omega) ?_ | refine zY (by omega) ?_ | refine zN (by omega) ?_ | refine amin ?_ | refine amax ?_ | refine zU (by omega) ?_ | refine z8 (by omega) ?_ | refine zX (by omega) (by omega) ?_ | refine zR rfl ?_ | refine acellA ?_ | (apply zL H; (· repeat first | exact .h | apply AtK.t); (· rfl)) | (apply zA H; (· repeat first | exact .h | apply AtK.t)) | (apply zS H; (· repeat first | exact .h | apply AtK.t); (· rfl); (conv => whnf); clear H; intro τ H) | rw [List.length_map]); (refine wX ?_)))
    replace H : Hp σb (.o ip (.cells (peC (.slice 1 [] .full) is (-1) ig 0)) :: .o is (.cells [spL u0 []]) :: .o ig (.map []) :: .o i6 (.cells [i64v p.off, i64v (p.off + (total p.fs : Int))]) :: .o i3 (.cells (amC p)) :: .o ib (.cells (buC im)) :: .o im (.map es) :: ([] ++ G)) τ := H.perm (.cons _ (.swap _ _ _))
    refine acall (peFits (H.get (k := 0) rfl) (H.get (k := 1) rfl) (by have := SOk.nil.k; omega) (spanP p) p.last) ?_
    rintro _ σ_ ⟨rfl, e_⟩
    obtain rfl := e_.symm
    refine ⟨?_, Ext.refl _⟩
    (refine wX ?_)
    have hk : putK p [] (-1) = if fitsC [] (-1) (spanP p) p.last ≠ 0 then fitsC [] (-1) (spanP p) p.last else addC (spanP p) [] := by unfold putK; rw [if_neg (by rw [hr]; simp), hen]
    by_cases hc : fitsC [] (-1) (spanP p) p.last = 0
    case neg =>
      rw [if_pos hc] at hk
      (repeat ((first | refine zI (by omega) ?_ | refine zE (by omega) (by omega) ?_ | refine zD (by omega) (by omega) ?_ | refine zY (by omega) ?_ | refine zN (by omega) ?_ | refine amin ?_ | refine amax ?_ | refine zU (by omega) ?_ | refine z8 (by omega) ?_ | refine zX (by omega) (by omega) ?_ | refine zR rfl ?_ | refine acellA ?_ | (apply zL H; (· repeat first | exact .h | apply AtK.t); (· rfl)) | (apply zA H; (· repeat first | exact .h | apply AtK.t)) | (apply zS H; (· repeat first | exact .h | apply AtK.t); (· rfl); (conv => whnf); clear H; intro τ H) | rw [List.length_map]); (refine wX ?_)))
      exact aret (VLe.refl _) (Sub.refl _) ⟨by rw [hk], .inl ⟨by rw [hk]; exact hc, Hp.rest (A := [.o ip (.cells (peC (.slice 1 [] .full) is (-1) ig 0)), .o is (.cells [spL u0 []]), .o ig (.map [])] ++ [.o i6 (.cells [i64v p.off, i64v (p.off + (total p.fs : Int))]), .o i3 (.cells (amC p))]) H⟩⟩
    rw [if_neg (by rw [hc]; simp)] at hk
    rw [hc]
    (refine wX ?_)
    (repeat ((first | refine zI (by omega) ?_ | refine zE (by omega) (by omega) ?_ | refine zD (by omega) (by omega) ?_ | refine zY (by omega) ?_ | refine zN (by omega) ?_ | refine amin ?_ | refine amax ?_ | refine zU (by omega) ?_ | refine z8 (by omega) ?_ | refine zX (by omega) (by omega) ?_ | refine zR rfl ?_ | refine acellA ?_ | (apply zL H; (· repeat first | exact .h | apply AtK.t); (· rfl)) | (apply zA H; (· repeat first | exact .h | apply AtK.t)) | (apply zS H; (· repeat first | exact .h | apply AtK.t); (· rfl); (conv => whnf); clear H; intro τ H) | rw [List.length_map]); (refine wX ?_)))
    refine acall (cloneB (RB.dv (F := [.o ip (.cells (peC (.slice 1 [] .full) is (-1) ig 0)), .o is (.cells [spL u0 []]), .o ig (.map []), .o i6 (.cells [i64v p.off, i64v (p.off + (total p.fs : Int))]), .o i3 (.cells (amC p)), .o ib (.cells (buC im)), .o im (.map es)]) RB.nil H) (by simp)) ?_
    rintro v1 υ ⟨E1, h1, N⟩
    refine ⟨?_, N.ext⟩
    replace H := Hp.mid (A := E1) (B := [.o ip (.cells (peC (.slice 1 [] .full) is (-1) ig 0)), .o is (.cells [spL u0 []]), .o ig (.map []), .o i6 (.cells [i64v p.off, i64v (p.off + (total p.fs : Int))]), .o i3 (.cells (amC p)), .o ib (.cells (buC im)), .o im (.map es)]) (C := ([] : List HE) ++ G) (H.join N)
    replace H : Hp σb (.o ip (.cells (peC (.slice 1 [] .full) is (-1) ig 0)) :: .o is (.cells [spL u0 []]) :: .o ig (.map []) :: .o i6 (.cells [i64v p.off, i64v (p.off + (total p.fs : Int))]) :: .o i3 (.cells (amC p)) :: .o ib (.cells (buC im)) :: .o im (.map es) :: (E1 ++ (([] : List HE) ++ G))) υ := H
    clear N
    (refine wX ?_)
    (repeat ((first | refine zI (by omega) ?_ | refine zE (by omega) (by omega) ?_ | refine zD (by omega) (by omega) ?_ | refine zY (by omega) ?_ | refine zN (by omega) ?_ | refine amin ?_ | refine amax ?_ | refine zU (by omega) ?_ | refine z8 (by omega) ?_ | refine zX (by omega) (by omega) ?_ | refine zR rfl ?_ | refine acellA ?_ | (apply zL H; (· repeat first | exact .h | apply AtK.t); (· rfl)) | (apply zA H; (· repeat first | exact .h | apply AtK.t)) | (apply zS H; (· repeat first | exact .h | apply AtK.t); (· rfl); (conv => whnf); clear H; intro τ H) | rw [List.length_map]); (refine wX ?_)))
    rw [h1.cells1]
    (refine wX ?_)
    apply zS H
    · exact .h
    · show (v1.isCell && true) = true
      rw [h1.isCell]; rfl
    (conv => whnf)
    clear H
    intro τ H
    (refine wX ?_)
    (repeat ((first | refine zI (by omega) ?_ | refine zE (by omega) (by omega) ?_ | refine zD (by omega) (by omega) ?_ | refine zY (by omega) ?_ | refine zN (by omega) ?_ | refine amin ?_ | refine amax ?_ | refine zU (by omega) ?_ | refine z8 (by omega) ?_ | refine zX (by omega) (by omega) ?_ | refine zR rfl ?_ | refine acellA ?_ | (apply zL H; (· repeat first | exact .h | apply AtK.t); (· rfl)) | (apply zA H; (· repeat first | exact .h | apply AtK.t)) | (apply zS H; (· repeat first | exact .h | apply AtK.t); (· rfl); (conv => whnf); clear H; intro τ H) | rw [List.length_map]); (refine wX ?_)))
    replace H : Hp σb (.o ip (.cells (peC v1 is (-1) ig 0)) :: .o is (.cells [spL u0 []]) :: (E1 ++ ([.o ig (.map []), .o i6 (.cells [i64v p.off, i64v (p.off + (total p.fs : Int))]), .o i3 (.cells (amC p)), .o ib (.cells (buC im)), .o im (.map es)] ++ (([] : List HE) ++ G)))) τ :=
      Hp.mid (B := [.o ip (.cells (peC v1 is (-1) ig 0)), .o is (.cells [spL u0 []])]) (Hp.mid (A := [.o ip (.cells (peC v1 is (-1) ig 0)), .o is (.cells [spL u0 []]), .o ig (.map []), .o i6 (.cells [i64v p.off, i64v (p.off + (total p.fs : Int))]), .o i3 (.cells (amC p)), .o ib (.cells (buC im)), .o im (.map es)]) (B := E1) (C := ([] : List HE) ++ G) H)
    refine acall (peFillA h1 H p.off.toNat p.off (by omega) p.fs.flatten hdn (by show p.off.toNat + p.fs.flatten.length ≤ _; omega) (by simp) (by have := SOk.nil.k; omega)) ?_
    clear H h1
    rintro _ τ ⟨rfl, v2, E2, h2, H⟩
    replace H : Hp σb (.o ip (.cells (peC v2 is (-1) ig 0)) :: .o is (.cells [spL u0 []]) :: .o ig (.map []) :: .o i6 (.cells [i64v p.off, i64v (p.off + (total p.fs : Int))]) :: .o i3 (.cells (amC p)) :: .o ib (.cells (buC im)) :: .o im (.map es) :: (E2 ++ (([] : List HE) ++ G))) τ := Hp.mid2 (A := [.o ip (.cells (peC v2 is (-1) ig 0)), .o is (.cells [spL u0 []])]) (B := E2) (C := [.o ig (.map []), .o i6 (.cells [i64v p.off, i64v (p.off + (total p.fs : Int))]), .o i3 (.cells (amC p)), .o ib (.cells (buC im)), .o im (.map es)]) H
    (refine wX ?_)
    (repeat ((first | refine zI (by omega) ?_ | refine zE (by omega) (by omega) ?_ | refine zD (by omega) (by omega) ?_ | refine zY (by omega) ?_ | refine zN (by omega) ?_ | refine amin ?_ | refine amax ?_ | refine zU (by omega) ?_ | refine z8 (by omega) ?_ | refine zX (by omega) (by omega) ?_ | refine zR rfl ?_ | refine acellA ?_ | (apply zL H; (· repeat first | exact .h | apply AtK.t); (· rfl)) | (apply zA H; (· repeat first | exact .h | apply AtK.t)) | (apply zS H; (· repeat first | exact .h | apply AtK.t); (· rfl); (conv => whnf); clear H; intro τ H) | rw [List.length_map]); (refine wX ?_)))
    refine acall (sAdd (H.perm (.swap _ _ _)) (spanP p) (by have := SOk.nil.k; omega)) ?_
    clear H
    rintro _ τ ⟨rfl, u, H⟩
    replace H : Hp σb (.o is (.cells [spL u (addS (spanP p) [])]) :: .o ip (.cells (peC v2 is (-1) ig 0)) :: .o ig (.map []) :: .o i6 (.cells [i64v p.off, i64v (p.off + (total p.fs : Int))]) :: .o i3 (.cells (amC p)) :: .o ib (.cells (buC im)) :: .o im (.map es) :: (E2 ++ (([] : List HE) ++ G))) τ := H
    (refine wX ?_)
    by_cases ha : addC (spanP p) [] = 0
    case neg =>
      rw [add_no ha] at H
      (repeat ((first | refine zI (by omega) ?_ | refine zE (by omega) (by omega) ?_ | refine zD (by omega) (by omega) ?_ | refine zY (by omega) ?_ | refine zN (by omega) ?_ | refine amin ?_ | refine amax ?_ | refine zU (by omega) ?_ | refine z8 (by omega) ?_ | refine zX (by omega) (by omega) ?_ | refine zR rfl ?_ | refine acellA ?_ | (apply zL H; (· repeat first | exact .h | apply AtK.t); (· rfl)) | (apply zA H; (· repeat first | exact .h | apply AtK.t)) | (apply zS H; (· repeat first | exact .h | apply AtK.t); (· rfl); (conv => whnf); clear H; intro τ H) | rw [List.length_map]); (refine wX ?_)))
      have H := Hp.rest (A := E2) (Hp.mid (A := [.o is (.cells [spL u []]), .o ip (.cells (peC (.slice 1 [] .full) is (-1) ig 0)), .o ig (.map []), .o i6 (.cells [i64v p.off, i64v (p.off + (total p.fs : Int))]), .o i3 (.cells (amC p)), .o ib (.cells (buC im)), .o im (.map es)]) (B := E2) H)
      (repeat ((first | refine zI (by omega) ?_ | refine zE (by omega) (by omega) ?_ | refine zD (by omega) (by omega) ?_ | refine zY (by omega) ?_ | refine zN (by omega) ?_ | refine amin ?_ | refine amax ?_ | refine zU (by omega) ?_ | refine z8 (by omega) ?_ | refine zX (by omega) (by omega) ?_ | refine zR rfl ?_ | refine acellA ?_ | (apply zL H; (· repeat first | exact .h | apply AtK.t); (· rfl)) | (apply zA H; (· repeat first | exact .h | apply AtK.t)) | (apply zS H; (· repeat first | exact .h | apply AtK.t); (· rfl); (conv => whnf); clear H; intro τ H) | rw [List.length_map]); (refine wX ?_)))
      exact aret (VLe.refl _) (Sub.refl _) ⟨by rw [hk], .inl ⟨by rw [hk]; exact ha, Hp.rest (A := [.o is (.cells [spL u []]), .o ip (.cells (peC (.slice 1 [] .full) is (-1) ig 0)), .o ig (.map [])] ++ [.o i6 (.cells [i64v p.off, i64v (p.off + (total p.fs : Int))]), .o i3 (.cells (amC p))]) H⟩⟩
    rw [ha]
    (refine wX ?_)
    (repeat ((first | refine zI (by omega) ?_ | refine zE (by omega) (by omega) ?_ | refine zD (by omega) (by omega) ?_ | refine zY (by omega) ?_ | refine zN (by omega) ?_ | refine amin ?_ | refine amax ?_ | refine zU (by omega) ?_ | refine z8 (by omega) ?_ | refine zX (by omega) (by omega) ?_ | refine zR rfl ?_ | refine acellA ?_ | (apply zL H; (· repeat first | exact .h | apply AtK.t); (· rfl)) | (apply zA H; (· repeat first | exact .h | apply AtK.t)) | (apply zS H; (· repeat first | exact .h | apply AtK.t); (· rfl); (conv => whnf); clear H; intro τ H) | rw [List.length_map]); (refine wX ?_)))
    replace H : Hp σb (.o ip (.cells (peC v2 is (-1) ig 0)) :: .o ig (.map []) :: .o is (.cells [spL u (addS (spanP p) [])]) :: (.o i6 (.cells [i64v p.off, i64v (p.off + (total p.fs : Int))]) :: .o i3 (.cells (amC p)) :: .o ib (.cells (buC im)) :: .o im (.map es) :: (E2 ++ (([] : List HE) ++ G)))) τ := H.perm (.trans (.swap _ _ _) (.cons _ (.swap _ _ _)))
    refine acall (peNote H h2.isCell p p.last (by omega) (by omega) (by omega)) ?_
    clear H
    rintro _ τ ⟨rfl, H⟩
    (refine wX ?_)
    (repeat ((first | refine zI (by omega) ?_ | refine zE (by omega) (by omega) ?_ | refine zD (by omega) (by omega) ?_ | refine zY (by omega) ?_ | refine zN (by omega) ?_ | refine amin ?_ | refine amax ?_ | refine zU (by omega) ?_ | refine z8 (by omega) ?_ | refine zX (by omega) (by omega) ?_ | refine zR rfl ?_ | refine acellA ?_ | (apply zL H; (· repeat first | exact .h | apply AtK.t); (· rfl)) | (apply zA H; (· repeat first | exact .h | apply AtK.t)) | (apply zS H; (· repeat first | exact .h | apply AtK.t); (· rfl); (conv => whnf); clear H; intro τ H) | rw [List.length_map]); (refine wX ?_)))
    apply zMs H
    · (repeat first | exact .h | apply AtK.t)
    · rfl
    (conv => whnf)
    clear H
    intro τ H
    (refine wX ?_)
    rw [mapSet_new hf] at H
    (repeat ((first | refine zI (by omega) ?_ | refine zE (by omega) (by omega) ?_ | refine zD (by omega) (by omega) ?_ | refine zY (by omega) ?_ | refine zN (by omega) ?_ | refine amin ?_ | refine amax ?_ | refine zU (by omega) ?_ | refine z8 (by omega) ?_ | refine zX (by omega) (by omega) ?_ | refine zR rfl ?_ | refine acellA ?_ | (apply zL H; (· repeat first | exact .h | apply AtK.t); (· rfl)) | (apply zA H; (· repeat first | exact .h | apply AtK.t)) | (apply zS H; (· repeat first | exact .h | apply AtK.t); (· rfl); (conv => whnf); clear H; intro τ H) | rw [List.length_map]); (refine wX ?_)))
    rw [hen]
    exact aret (VLe.refl _) (Sub.refl _) ⟨by rw [hk, ha], .inr ⟨by rw [hk, ha], ⟨ip, is, ig, v2, E2, u, h2, (Hp.rest (A := [.o i6 (.cells [i64v p.off, i64v (p.off + (total p.fs : Int))]), .o i3 (.cells (amC p))]) (Hp.mid (A := [.o ip (.cells (peC v2 is (noteE p p.last (-1)) ig (noteF p p.last 0))), .o ig (.map (noteM p p.last [])), .o is (.cells [spL u (addS (spanP p) [])])]) (B := [.o i6 (.cells [i64v p.off, i64v (p.off + (total p.fs : Int))]), .o i3 (.cells (amC p))]) (C := .o ib (.cells (buC im)) :: .o im (.map (es ++ [(p.sn, AVal.ptr ip 0)])) :: (E2 ++ G)) H)).perm (.cons _ (.swap _ _ _))⟩⟩⟩
end
end Go.Proofs.Ytgobbmdbkmjlnaa
/-
  Views of rows of bytes that (repeat ((first | refine aload (by (repeat (first | with_reducible exact upd_same _ _ _ | assumption | rw [upd_ne _ _ (by first | assumption | (apply Ne.symm; assumption))]))) rfl ?_ | refine afit_i64 (by omega) ?_ | refine arem_nonneg (by omega) (by omega) ?_ | refine adiv_i64 (by omega) (by omega) ?_ | refine abr_yes (by omega) ?_ | refine abr_no (by omega) ?_ | refine amin ?_ | refine amax ?_ | refine afit_u64 (by omega) ?_ | refine afit_u8 (by omega) ?_ | rw [List.length_map]); (refine wX ?_))) on being stored into: cut, and copied.
-/
namespace Go.Proofs.Ytgobbmdbkmjlnaa
set_option linter.unusedVariables false
set_option linter.unusedSimpArgs false
open Go Go.Am

/-- A view of a row's bytes, of which some may lie ahead or behind. -/
def MsV (σ : AHeap) (r off : Nat) (b : List UInt8) : Prop := ∃ bs : List UInt8, σ r = some (.cells (bs.map byteV)) ∧ off + b.length ≤ bs.length ∧ (bs.drop off).take b.length = b
theorem MsV.sub {σ σ' : AHeap} {r off : Nat} {b : List UInt8} (h : MsV σ r off b) (k : Sub σ' σ) : MsV σ' r off b := by
  obtain ⟨bs, h1, h2, h3⟩ := h; exact ⟨bs, k _ _ h1, h2, h3⟩
theorem MsV.cut {σ : AHeap} {r off : Nat} {b : List UInt8} (h : MsV σ r off b) {l n : Nat} (hn : l ≤ n) (hl : n ≤ b.length) : MsV σ r (off + l) ((b.take n).drop l) := by
  obtain ⟨bs, h1, h2, h3⟩ := h
  have hlen : ((b.take n).drop l).length = n - l := by rw [List.length_drop, List.length_take]; omega
  refine ⟨bs, h1, by omega, ?_⟩
  rw [hlen]
  conv => rhs; rw [← h3]
  rw [List.take_take, Nat.min_eq_left hl, List.drop_take, List.drop_drop]
theorem CloneW (r off : Nat) (b : List UInt8) (σ : AHeap) (hs : MsV σ r off b) (hl : b.length ≤ 140737488355328) : ACalls Try.prog i_slices_Clone_byte_byte [.ms r 1 off b.length] σ fun v σ' => ∃ tk, Owned σ σ' tk ∧ v = sl tk b := by
  obtain ⟨bs, h1, h2, h3⟩ := hs
  refine k_slices_Clone_byte_byte rfl ?_
  (refine wX ?_)
  refine ⟨⟨_, h1, by rw [List.length_map]; omega, ?_⟩⟩
  rw [← List.map_drop, ← List.map_take, h3]
  refine aapp_full (by rw [List.length_map]; simp; omega) fun t' ht' => ?_
  (refine wX ?_)
  exact aret_same ⟨_, .tip ht', rfl⟩
/-- Bytes that are given: as they are, or as a view of a row. -/
def Src (σ : AHeap) (v : AVal) (b : List UInt8) : Prop := (∃ t, v = sl t b) ∨ ∃ r off, v = .ms r 1 off b.length ∧ MsV σ r off b
theorem Src.sub {σ σ' : AHeap} {v : AVal} {b : List UInt8} (h : Src σ v b) (k : Sub σ' σ) : Src σ' v b := by
  rcases h with h | ⟨r, off, h, m⟩
  · exact .inl h
  · exact .inr ⟨r, off, h, m.sub k⟩
theorem acutm {σ : AHeap} {r off l n : Nat} {b : List UInt8} {K : AVal → Prop} (hs : MsV σ r off b) (hl : l ≤ n) (hn : n ≤ b.length) (h : ∀ v, Src σ v ((b.take n).drop l) → K v) : ACutM r 1 off l n K := by
  have hlen : ((b.take n).drop l).length = n - l := by rw [List.length_drop, List.length_take]; omega
  refine ⟨?_⟩
  by_cases e : l < n
  · refine .inl ⟨e, h _ (.inr ⟨r, off + l, by rw [hlen, Nat.mul_one], hs.cut hl hn⟩)⟩
  · refine .inr (.inr ⟨by omega, h _ (.inl ⟨.none, ?_⟩)⟩)
    rw [List.length_eq_zero_iff.1 (by omega : ((b.take n).drop l).length = 0)]; rfl
theorem CloneS (v : AVal) (b : List UInt8) (σ : AHeap) (hs : Src σ v b) (hl : b.length ≤ 140737488355328) : ACalls Try.prog i_slices_Clone_byte_byte [v] σ fun v σ' => ∃ tk, Owned σ σ' tk ∧ v = sl tk b := by
  rcases hs with ⟨t, rfl⟩ | ⟨r, off, rfl, m⟩
  · exact Clone b _ _ hl
  · exact CloneW r off b σ m hl
end Go.Proofs.Ytgobbmdbkmjlnaa
/-
  What came in parts: what is missing, and what is taken.
-/
namespace Go.Proofs.Ytgobbmdbkmjlnaa
set_option linter.unusedVariables false
set_option linter.unusedSimpArgs false
set_option maxRecDepth 20000
open Go Go.Am

/-- Is a place an edge? -/
def hasE (em : List (Int × AVal)) (k : Int) : Bool := (em.find? fun e => e.1 == k).isSome
def AllT (em : List (Int × AVal)) : Prop := ∀ x ∈ em, x.2 = trueV
theorem look_edge {em : List (Int × AVal)} (h : AllT em) (k : Int) : (((em.find? fun e => e.1 == k).map (·.2)).getD (.v (.bool false))) = boolv (hasE em k) := by
  unfold hasE
  cases hf : em.find? fun e => e.1 == k with
  | none => rfl
  | some x => rw [Option.map_some, Option.getD_some, h x (List.mem_of_find?_eq_some hf)]; rfl
theorem AllT.set : ∀ {em : List (Int × AVal)} {k : Int}, AllT em → AllT (mapSet em k trueV)
  | [], k, _ => fun x hx => by simp [mapSet] at hx; rw [hx]
  | (m, y) :: r, k, h => by
    intro x hx
    by_cases hm : m = k
    · simp [mapSet, hm] at hx
      rcases hx with rfl | hx
      · rfl
      · exact h x (List.mem_cons_of_mem _ hx)
    · simp [mapSet, hm] at hx
      rcases hx with rfl | hx
      · exact h _ (List.mem_cons_self ..)
      · exact AllT.set (fun z hz => h z (List.mem_cons_of_mem _ hz)) x hx
theorem hasE_set : ∀ {em : List (Int × AVal)} {k j : Int}, hasE (mapSet em k trueV) j = (decide (j = k) || hasE em j)
  | [], k, j => by
    by_cases h : j = k
    · subst h; simp [mapSet, hasE]
    · simp [mapSet, hasE, h, Ne.symm h]
  | (m, y) :: r, k, j => by
    have ih := hasE_set (em := r) (k := k) (j := j)
    by_cases hm : m = k
    · subst hm
      by_cases h : j = m
      · subst h; simp [mapSet, hasE]
      · simp [mapSet, hasE, h, Ne.symm h]
    · by_cases h : m = j
      · subst h; simp [mapSet, hasE, hm]
      · have hb : (m == j) = false := by simp [h]
        have e1 : mapSet ((m, y) :: r) k trueV = (m, y) :: mapSet r k trueV := by simp [mapSet, hm]
        unfold hasE at ih ⊢
        rw [e1, List.find?_cons, List.find?_cons]
        dsimp only
        rw [hb]
        exact ih
theorem AllT.noteN {p : Pk} {em : List (Int × AVal)} (h : AllT em) : ∀ k, AllT (noteN p em k)
  | 0 => h
  | k + 1 => by
    rw [show Go.Proofs.Ytgobbmdbkmjlnaa.noteN p em (k + 1) = if k > 0 then mapSet (Go.Proofs.Ytgobbmdbkmjlnaa.noteN p em k) (p.off + (total (p.fs.take k) : Int)) trueV else Go.Proofs.Ytgobbmdbkmjlnaa.noteN p em k from rfl]
    split
    · exact (AllT.noteN h k).set
    · exact AllT.noteN h k
theorem AllT.noteM {p : Pk} {ends : Bool} {em : List (Int × AVal)} (h : AllT em) : AllT (noteM p ends em) := by
  have h1 : AllT (note1 p em) := by
    unfold note1
    split
    · exact h
    · split
      · exact h.set
      · exact h
  unfold Go.Proofs.Ytgobbmdbkmjlnaa.noteM
  split
  · exact h1.noteN _
  · split
    · exact (h1.noteN _).set
    · exact h1.noteN _
/-- The fields so far, and where the next one begins. -/
def takeN (D : List UInt8) (em : List (Int × AVal)) (e : Int) : Nat → List (List UInt8) × Nat
  | 0 => ([], 0)
  | k + 1 => if ((k : Int) + 1 = e ∨ hasE em ((k : Int) + 1) = true) then ((takeN D em e k).1 ++ [(D.take (k + 1)).drop (takeN D em e k).2], k + 1) else takeN D em e k
theorem takeN_le (D : List UInt8) (em : List (Int × AVal)) (e : Int) : ∀ k, (takeN D em e k).2 ≤ k ∧ (takeN D em e k).1.length ≤ k
  | 0 => ⟨Nat.le_refl _, Nat.le_refl _⟩
  | k + 1 => by
    obtain ⟨h1, h2⟩ := takeN_le D em e k
    unfold takeN
    split
    · refine ⟨Nat.le_refl _, ?_⟩
      rw [List.length_append, List.length_singleton]; omega
    · exact ⟨by omega, by omega⟩

section
variable {σb σ : AHeap} {ib im ip is ig : Nat} {e fi : Int} {l : List Sp} {tk : Tok} {v : AVal} {D : List UInt8} {em es : List (Int × AVal)} {E G : List HE}
theorem gapsV_len {to : Int} : (gapsV to l).length ≤ l.length + 1 := by
  unfold gapsV
  split
  · exact gapsL_len
  · simp
theorem buMissing (b1 : σ ib = some (.cells (buC im))) (b2 : σ im = some (.map es)) (sn : Int) (he : es.find? (fun e => e.1 == sn) = some (sn, .ptr ip 0)) (b3 : σ ip = some (.cells (peC v is e ig fi))) (b4 : σ is = some (.cells [spL tk l])) (hs : SOk l) :
    ACalls Try.prog i_rxbuf_Buffer_Missing [.ptr ib 0, i64v sn] σ fun r σ' => ∃ u, Owned σ σ' u ∧ r = spL u (missL l e) := by
  refine k_rxbuf_Buffer_Missing rfl ?_
  have H := Hp.nil σ
  (refine wX ?_)
  refine acall (buFind b1 b2 sn he) ?_
  rintro _ σ_ ⟨rfl, e_⟩
  obtain rfl := e_.symm
  refine ⟨?_, Ext.refl _⟩
  (refine wX ?_)
  (repeat ((first | refine zI (by omega) ?_ | refine zE (by omega) (by omega) ?_ | refine zD (by omega) (by omega) ?_ | refine zY (by omega) ?_ | refine zN (by omega) ?_ | refine amin ?_ | refine amax ?_ | refine zU (by omega) ?_ | refine z8 (by omega) ?_ | refine zX (by omega) (by omega) ?_ | refine zR rfl ?_ | refine acellA ?_ | refine zB H b1 rfl ?_ | refine zC H b1 ?_ | refine zB H b2 rfl ?_ | refine zC H b2 ?_ | refine zB H b3 rfl ?_ | refine zC H b3 ?_ | refine zB H b4 rfl ?_ | refine zC H b4 ?_ | (apply zL H; (· repeat first | exact .h | apply AtK.t); (· rfl)) | (apply zA H; (· repeat first | exact .h | apply AtK.t)) | (apply zS H; (· repeat first | exact .h | apply AtK.t); (· rfl); (conv => whnf); clear H; intro τ H) | rw [List.length_map]); (refine wX ?_)))
  unfold missL
  by_cases h : e = -1
  · rw [if_neg (fun k => k h)]
    (repeat ((first | refine zI (by omega) ?_ | refine zE (by omega) (by omega) ?_ | refine zD (by omega) (by omega) ?_ | refine zY (by omega) ?_ | refine zN (by omega) ?_ | refine amin ?_ | refine amax ?_ | refine zU (by omega) ?_ | refine z8 (by omega) ?_ | refine zX (by omega) (by omega) ?_ | refine zR rfl ?_ | refine acellA ?_ | refine zB H b1 rfl ?_ | refine zC H b1 ?_ | refine zB H b2 rfl ?_ | refine zC H b2 ?_ | refine zB H b3 rfl ?_ | refine zC H b3 ?_ | refine zB H b4 rfl ?_ | refine zC H b4 ?_ | (apply zL H; (· repeat first | exact .h | apply AtK.t); (· rfl)) | (apply zA H; (· repeat first | exact .h | apply AtK.t)) | (apply zS H; (· repeat first | exact .h | apply AtK.t); (· rfl); (conv => whnf); clear H; intro τ H) | rw [List.length_map]); (refine wX ?_)))
    refine acall (peTop b3 b4 hs.mid) ?_
    rintro _ σ_ ⟨rfl, e_⟩
    obtain rfl := e_.symm
    refine ⟨?_, Ext.refl _⟩
    (refine wX ?_)
    refine acall (sGaps b4 hs (topL l)) ?_
    rintro _ τ ⟨u, hu, rfl⟩
    refine ⟨?_, hu.ext⟩
    have H := H.owned hu
    (refine wX ?_)
    refine acall (peTop (H.sub _ _ b3) (H.sub _ _ b4) hs.mid) ?_
    rintro _ σ_ ⟨rfl, e_⟩
    obtain rfl := e_.symm
    refine ⟨?_, Ext.refl _⟩
    (refine wX ?_)
    have hg := gapsV_len (l := l) (to := topL l)
    have hk := hs.k
    (repeat ((first | refine zI (by omega) ?_ | refine zE (by omega) (by omega) ?_ | refine zD (by omega) (by omega) ?_ | refine zY (by omega) ?_ | refine zN (by omega) ?_ | refine amin ?_ | refine amax ?_ | refine zU (by omega) ?_ | refine z8 (by omega) ?_ | refine zX (by omega) (by omega) ?_ | refine zR rfl ?_ | refine acellA ?_ | refine zB H b1 rfl ?_ | refine zC H b1 ?_ | refine zB H b2 rfl ?_ | refine zC H b2 ?_ | refine zB H b3 rfl ?_ | refine zC H b3 ?_ | refine zB H b4 rfl ?_ | refine zC H b4 ?_ | (apply zL H; (· repeat first | exact .h | apply AtK.t); (· rfl)) | (apply zA H; (· repeat first | exact .h | apply AtK.t)) | (apply zS H; (· repeat first | exact .h | apply AtK.t); (· rfl); (conv => whnf); clear H; intro τ H) | rw [List.length_map]); (refine wX ?_)))
    apply zP H
    · (repeat first | exact .h | apply AtK.t)
    · exact (by rw [List.length_map]; show (_ + 1) * 16 ≤ _; omega)
    intro tk2
    (conv => whnf)
    clear H
    intro τ H
    (refine wX ?_)
    rw [show [AVal.agg [i64v (topL l), AVal.v (.int .i64 0)]] = [spV (topL l, 0)] from rfl, sp_snoc]
    (refine wX ?_)
    (repeat ((first | refine zI (by omega) ?_ | refine zE (by omega) (by omega) ?_ | refine zD (by omega) (by omega) ?_ | refine zY (by omega) ?_ | refine zN (by omega) ?_ | refine amin ?_ | refine amax ?_ | refine zU (by omega) ?_ | refine z8 (by omega) ?_ | refine zX (by omega) (by omega) ?_ | refine zR rfl ?_ | refine acellA ?_ | refine zB H b1 rfl ?_ | refine zC H b1 ?_ | refine zB H b2 rfl ?_ | refine zC H b2 ?_ | refine zB H b3 rfl ?_ | refine zC H b3 ?_ | refine zB H b4 rfl ?_ | refine zC H b4 ?_ | (apply zL H; (· repeat first | exact .h | apply AtK.t); (· rfl)) | (apply zA H; (· repeat first | exact .h | apply AtK.t)) | (apply zS H; (· repeat first | exact .h | apply AtK.t); (· rfl); (conv => whnf); clear H; intro τ H) | rw [List.length_map]); (refine wX ?_)))
    obtain ⟨σ2, q1, q2⟩ := H.toOwned
    exact aret (VLe.refl _) q2 ⟨tk2, q1, rfl⟩
  · rw [if_pos h]
    (repeat ((first | refine zI (by omega) ?_ | refine zE (by omega) (by omega) ?_ | refine zD (by omega) (by omega) ?_ | refine zY (by omega) ?_ | refine zN (by omega) ?_ | refine amin ?_ | refine amax ?_ | refine zU (by omega) ?_ | refine z8 (by omega) ?_ | refine zX (by omega) (by omega) ?_ | refine zR rfl ?_ | refine acellA ?_ | refine zB H b1 rfl ?_ | refine zC H b1 ?_ | refine zB H b2 rfl ?_ | refine zC H b2 ?_ | refine zB H b3 rfl ?_ | refine zC H b3 ?_ | refine zB H b4 rfl ?_ | refine zC H b4 ?_ | (apply zL H; (· repeat first | exact .h | apply AtK.t); (· rfl)) | (apply zA H; (· repeat first | exact .h | apply AtK.t)) | (apply zS H; (· repeat first | exact .h | apply AtK.t); (· rfl); (conv => whnf); clear H; intro τ H) | rw [List.length_map]); (refine wX ?_)))
    refine acall (sGaps b4 hs e) ?_
    rintro _ τ ⟨u, hu, rfl⟩
    refine ⟨?_, hu.ext⟩
    (refine wX ?_)
    exact aret (VLe.refl _) (Sub.refl _) ⟨u, hu, rfl⟩
theorem buMissingNone (b1 : σ ib = some (.cells (buC im))) (b2 : σ im = some (.map es)) (sn : Int) (he : es.find? (fun e => e.1 == sn) = none) :
    ACalls Try.prog i_rxbuf_Buffer_Missing [.ptr ib 0, i64v sn] σ fun r σ' => r = spL .full [] ∧ σ' = σ := by
  refine k_rxbuf_Buffer_Missing rfl ?_
  have H := Hp.nil σ
  (refine wX ?_)
  refine acall (buNone b1 b2 sn he) ?_
  rintro _ σ_ ⟨rfl, e_⟩
  obtain rfl := e_.symm
  refine ⟨?_, Ext.refl _⟩
  (refine wX ?_)
  (repeat ((first | refine zI (by omega) ?_ | refine zE (by omega) (by omega) ?_ | refine zD (by omega) (by omega) ?_ | refine zY (by omega) ?_ | refine zN (by omega) ?_ | refine amin ?_ | refine amax ?_ | refine zU (by omega) ?_ | refine z8 (by omega) ?_ | refine zX (by omega) (by omega) ?_ | refine zR rfl ?_ | refine acellA ?_ | refine zB H b1 rfl ?_ | refine zC H b1 ?_ | refine zB H b2 rfl ?_ | refine zC H b2 ?_ | (apply zL H; (· repeat first | exact .h | apply AtK.t); (· rfl)) | (apply zA H; (· repeat first | exact .h | apply AtK.t)) | (apply zS H; (· repeat first | exact .h | apply AtK.t); (· rfl); (conv => whnf); clear H; intro τ H) | rw [List.length_map]); (refine wX ?_)))
  exact aret (VLe.refl _) H.sub ⟨rfl, rfl⟩
theorem buTakeNone (b1 : σ ib = some (.cells (buC im))) (b2 : σ im = some (.map es)) (sn : Int) (he : es.find? (fun e => e.1 == sn) = none) :
    ACalls Try.prog i_rxbuf_Buffer_Take [.ptr ib 0, i64v sn] σ fun r σ' => r = .tup [i64v 0, .slice 1 [] .full, i64v 4] ∧ σ' = σ := by
  refine k_rxbuf_Buffer_Take rfl ?_
  have H := Hp.nil σ
  (refine wX ?_)
  refine acall (buNone b1 b2 sn he) ?_
  rintro _ σ_ ⟨rfl, e_⟩
  obtain rfl := e_.symm
  refine ⟨?_, Ext.refl _⟩
  (refine wX ?_)
  (repeat ((first | refine zI (by omega) ?_ | refine zE (by omega) (by omega) ?_ | refine zD (by omega) (by omega) ?_ | refine zY (by omega) ?_ | refine zN (by omega) ?_ | refine amin ?_ | refine amax ?_ | refine zU (by omega) ?_ | refine z8 (by omega) ?_ | refine zX (by omega) (by omega) ?_ | refine zR rfl ?_ | refine acellA ?_ | refine zB H b1 rfl ?_ | refine zC H b1 ?_ | refine zB H b2 rfl ?_ | refine zC H b2 ?_ | (apply zL H; (· repeat first | exact .h | apply AtK.t); (· rfl)) | (apply zA H; (· repeat first | exact .h | apply AtK.t)) | (apply zS H; (· repeat first | exact .h | apply AtK.t); (· rfl); (conv => whnf); clear H; intro τ H) | rw [List.length_map]); (refine wX ?_)))
  exact aret (VLe.refl _) H.sub ⟨rfl, rfl⟩
theorem buTakeShort (b1 : σ ib = some (.cells (buC im))) (b2 : σ im = some (.map es)) (sn : Int) (he : es.find? (fun e => e.1 == sn) = some (sn, .ptr ip 0)) (b3 : σ ip = some (.cells (peC v is e ig fi))) (b4 : σ is = some (.cells [spL tk l])) (hs : SOk l) (hw : wholeV l e = false) :
    ACalls Try.prog i_rxbuf_Buffer_Take [.ptr ib 0, i64v sn] σ fun r σ' => r = .tup [i64v 0, .slice 1 [] .full, i64v 8] ∧ σ' = σ := by
  refine k_rxbuf_Buffer_Take rfl ?_
  have H := Hp.nil σ
  (refine wX ?_)
  refine acall (buFind b1 b2 sn he) ?_
  rintro _ σ_ ⟨rfl, e_⟩
  obtain rfl := e_.symm
  refine ⟨?_, Ext.refl _⟩
  (refine wX ?_)
  (repeat ((first | refine zI (by omega) ?_ | refine zE (by omega) (by omega) ?_ | refine zD (by omega) (by omega) ?_ | refine zY (by omega) ?_ | refine zN (by omega) ?_ | refine amin ?_ | refine amax ?_ | refine zU (by omega) ?_ | refine z8 (by omega) ?_ | refine zX (by omega) (by omega) ?_ | refine zR rfl ?_ | refine acellA ?_ | refine zB H b1 rfl ?_ | refine zC H b1 ?_ | refine zB H b2 rfl ?_ | refine zC H b2 ?_ | refine zB H b3 rfl ?_ | refine zC H b3 ?_ | refine zB H b4 rfl ?_ | refine zC H b4 ?_ | (apply zL H; (· repeat first | exact .h | apply AtK.t); (· rfl)) | (apply zA H; (· repeat first | exact .h | apply AtK.t)) | (apply zS H; (· repeat first | exact .h | apply AtK.t); (· rfl); (conv => whnf); clear H; intro τ H) | rw [List.length_map]); (refine wX ?_)))
  refine acall (peWhole b3 b4 hs.mid) ?_
  rintro _ σ_ ⟨rfl, e_⟩
  obtain rfl := e_.symm
  refine ⟨?_, Ext.refl _⟩
  (refine wX ?_)
  rw [hw]
  (refine wX ?_)
  (repeat ((first | refine zI (by omega) ?_ | refine zE (by omega) (by omega) ?_ | refine zD (by omega) (by omega) ?_ | refine zY (by omega) ?_ | refine zN (by omega) ?_ | refine amin ?_ | refine amax ?_ | refine zU (by omega) ?_ | refine z8 (by omega) ?_ | refine zX (by omega) (by omega) ?_ | refine zR rfl ?_ | refine acellA ?_ | refine zB H b1 rfl ?_ | refine zC H b1 ?_ | refine zB H b2 rfl ?_ | refine zC H b2 ?_ | refine zB H b3 rfl ?_ | refine zC H b3 ?_ | refine zB H b4 rfl ?_ | refine zC H b4 ?_ | (apply zL H; (· repeat first | exact .h | apply AtK.t); (· rfl)) | (apply zA H; (· repeat first | exact .h | apply AtK.t)) | (apply zS H; (· repeat first | exact .h | apply AtK.t); (· rfl); (conv => whnf); clear H; intro τ H) | rw [List.length_map]); (refine wX ?_)))
  exact aret (VLe.refl _) H.sub ⟨rfl, rfl⟩
set_option maxHeartbeats 4000000 in
theorem buTake (h : RB v D E) (H : Hp σb (.o ib (.cells (buC im)) :: .o im (.map es) :: .o ip (.cells (peC v is e ig fi)) :: .o is (.cells [spL tk l]) :: .o ig (.map em) :: (E ++ G)) σ) (sn : Int) (he : es.find? (fun e => e.1 == sn) = some (sn, .ptr ip 0)) (hs : SOk l) (hw : wholeV l e = true)
    (hD : e ≤ D.length) (hD2 : D.length ≤ 1000000) (hem : AllT em) :
    ACalls Try.prog i_rxbuf_Buffer_Take [.ptr ib 0, i64v sn] σ fun r σ' => r = .tup [i64v fi, lists .none (takeN D em e e.toNat).1, i64v 0] ∧ Hp σb (.o ib (.cells (buC im)) :: .o im (.map (mapDel es sn)) :: .o ip (.cells (peC v is e ig fi)) :: .o is (.cells [spL tk l]) :: .o ig (.map em) :: (E ++ G)) σ' := by
  have he0 : 0 < e := by
    unfold wholeV at hw
    simp at hw
    omega
  cases h with
  | nil => simp at hD; omega
  | row r _ hDn =>
  replace H : Hp σb (.o ib (.cells (buC im)) :: .o im (.map es) :: .o ip (.cells (peC (.ms r 1 0 D.length) is e ig fi)) :: .o is (.cells [spL tk l]) :: .o ig (.map em) :: .o r (.cells (D.map byteV)) :: G) σ := H
  refine k_rxbuf_Buffer_Take rfl ?_
  (refine wX ?_)
  refine acall (buFind (H.get (k := 0) rfl) (H.get (k := 1) rfl) sn he) ?_
  rintro _ σ_ ⟨rfl, e_⟩
  obtain rfl := e_.symm
  refine ⟨?_, Ext.refl _⟩
  (refine wX ?_)
  (repeat ((first | refine zI (by omega) ?_ | refine zE (by omega) (by omega) ?_ | refine zD (by omega) (by omega) ?_ | refine zY (by omega) ?_ | refine zN (by omega) ?_ | refine amin ?_ | refine amax ?_ | refine zU (by omega) ?_ | refine z8 (by omega) ?_ | refine zX (by omega) (by omega) ?_ | refine zR rfl ?_ | refine acellA ?_ | (apply zL H; (· repeat first | exact .h | apply AtK.t); (· rfl)) | (apply zA H; (· repeat first | exact .h | apply AtK.t)) | (apply zS H; (· repeat first | exact .h | apply AtK.t); (· rfl); (conv => whnf); clear H; intro τ H) | rw [List.length_map]); (refine wX ?_)))
  refine acall (peWhole (H.get (k := 2) rfl) (H.get (k := 3) rfl) hs.mid) ?_
  rintro _ σ_ ⟨rfl, e_⟩
  obtain rfl := e_.symm
  refine ⟨?_, Ext.refl _⟩
  (refine wX ?_)
  rw [hw]
  (refine wX ?_)
  (repeat ((first | refine zI (by omega) ?_ | refine zE (by omega) (by omega) ?_ | refine zD (by omega) (by omega) ?_ | refine zY (by omega) ?_ | refine zN (by omega) ?_ | refine amin ?_ | refine amax ?_ | refine zU (by omega) ?_ | refine z8 (by omega) ?_ | refine zX (by omega) (by omega) ?_ | refine zR rfl ?_ | refine acellA ?_ | (apply zL H; (· repeat first | exact .h | apply AtK.t); (· rfl)) | (apply zA H; (· repeat first | exact .h | apply AtK.t)) | (apply zS H; (· repeat first | exact .h | apply AtK.t); (· rfl); (conv => whnf); clear H; intro τ H) | rw [List.length_map]); (refine wX ?_)))
  replace H := H.cons_full
  refine aloop (α := Nat × Tok × AHeap) (fun y => [(s11, i64v ((y.1 : Int) + 1)), (s10, i64v (takeN D em e y.1).2), (s9, lists y.2.1 (takeN D em e y.1).1)]) (fun y => y.2.2)
    (fun y => (y.1 : Int) ≤ e ∧ Hp σb (.t y.2.1 :: .o ib (.cells (buC im)) :: .o im (.map es) :: .o ip (.cells (peC (.ms r 1 0 D.length) is e ig fi)) :: .o is (.cells [spL tk l]) :: .o ig (.map em) :: .o r (.cells (D.map byteV)) :: G) y.2.2) (fun y => e.toNat + 1 - y.1)
    (0, .full, σ) ⟨by omega, H⟩ (Sub.refl _) ?_ ?_
  · (refine wX ?_)
    (repeat' first | with_reducible exact EnvLe.refl _ | (refine EnvLe.node ?_ (by first | exact Or.inl rfl | exact Or.inr (Or.inl rfl) | exact Or.inr (Or.inr ⟨nofun, VLe.slice _ _ _⟩)) ?_))
  clear H
  rintro ⟨k, tk1, τ⟩ ⟨hk, H⟩
  dsimp only at hk H ⊢
  obtain ⟨hf, ho⟩ := takeN_le D em e k
  have hst : takeN D em e (k + 1) = if ((k : Int) + 1 = e ∨ hasE em ((k : Int) + 1) = true) then ((takeN D em e k).1 ++ [(D.take (k + 1)).drop (takeN D em e k).2], k + 1) else takeN D em e k := rfl
  (refine wX ?_)
  (repeat ((first | refine zI (by omega) ?_ | refine zE (by omega) (by omega) ?_ | refine zD (by omega) (by omega) ?_ | refine zY (by omega) ?_ | refine zN (by omega) ?_ | refine amin ?_ | refine amax ?_ | refine zU (by omega) ?_ | refine z8 (by omega) ?_ | refine zX (by omega) (by omega) ?_ | refine zR rfl ?_ | refine acellA ?_ | (apply zL H; (· repeat first | exact .h | apply AtK.t); (· rfl)) | (apply zA H; (· repeat first | exact .h | apply AtK.t)) | (apply zS H; (· repeat first | exact .h | apply AtK.t); (· rfl); (conv => whnf); clear H; intro τ H) | rw [List.length_map]); (refine wX ?_)))
  by_cases hlt : (k : Int) + 1 ≤ e
  · (repeat ((first | refine zI (by omega) ?_ | refine zE (by omega) (by omega) ?_ | refine zD (by omega) (by omega) ?_ | refine zY (by omega) ?_ | refine zN (by omega) ?_ | refine amin ?_ | refine amax ?_ | refine zU (by omega) ?_ | refine z8 (by omega) ?_ | refine zX (by omega) (by omega) ?_ | refine zR rfl ?_ | refine acellA ?_ | (apply zL H; (· repeat first | exact .h | apply AtK.t); (· rfl)) | (apply zA H; (· repeat first | exact .h | apply AtK.t)) | (apply zS H; (· repeat first | exact .h | apply AtK.t); (· rfl); (conv => whnf); clear H; intro τ H) | rw [List.length_map]); (refine wX ?_)))
    by_cases hke : (k : Int) + 1 = e
    · have hs1 : takeN D em e (k + 1) = ((takeN D em e k).1 ++ [(D.take (k + 1)).drop (takeN D em e k).2], k + 1) := by rw [hst, if_pos (.inl hke)]
      (repeat ((first | refine zI (by omega) ?_ | refine zE (by omega) (by omega) ?_ | refine zD (by omega) (by omega) ?_ | refine zY (by omega) ?_ | refine zN (by omega) ?_ | refine amin ?_ | refine amax ?_ | refine zU (by omega) ?_ | refine z8 (by omega) ?_ | refine zX (by omega) (by omega) ?_ | refine zR rfl ?_ | refine acellA ?_ | (apply zL H; (· repeat first | exact .h | apply AtK.t); (· rfl)) | (apply zA H; (· repeat first | exact .h | apply AtK.t)) | (apply zS H; (· repeat first | exact .h | apply AtK.t); (· rfl); (conv => whnf); clear H; intro τ H) | rw [List.length_map]); (refine wX ?_)))
      refine acut (by omega) (by omega) (by omega) ?_
      (refine wX ?_)
      refine acutm (b := D) ⟨D, H.get (k := 6) rfl, by omega, by simp⟩ (by omega) (by omega) fun w hw2 => ?_
      rw [show ((k : Int) + 1).toNat = k + 1 by omega, Int.toNat_natCast] at hw2
      (refine wX ?_)
      refine acall_less (CloneS w _ τ hw2 (by rw [List.length_drop, List.length_take]; omega)) ?_
      rintro _ σ4 ⟨tk3, ho3, rfl⟩
      refine ⟨sl .none ((D.take (k + 1)).drop (takeN D em e k).2), τ, VLe.slice _ _ _, ho3.sub, ?_, Ext.refl _⟩
      (refine wX ?_)
      apply zP H
      · (repeat first | exact .h | apply AtK.t)
      · exact (by rw [List.length_map]; show (_ + 1) * 24 ≤ _; omega)
      intro tk2
      (conv => whnf)
      clear H
      intro τ H
      (refine wX ?_)
      rw [show (takeN D em e k).1.map (sl .none) ++ [sl .none ((D.take (k + 1)).drop (takeN D em e k).2)] = (takeN D em e (k + 1)).1.map (sl .none) by rw [hs1]; simp]
      (repeat ((first | refine zI (by omega) ?_ | refine zE (by omega) (by omega) ?_ | refine zD (by omega) (by omega) ?_ | refine zY (by omega) ?_ | refine zN (by omega) ?_ | refine amin ?_ | refine amax ?_ | refine zU (by omega) ?_ | refine z8 (by omega) ?_ | refine zX (by omega) (by omega) ?_ | refine zR rfl ?_ | refine acellA ?_ | (apply zL H; (· repeat first | exact .h | apply AtK.t); (· rfl)) | (apply zA H; (· repeat first | exact .h | apply AtK.t)) | (apply zS H; (· repeat first | exact .h | apply AtK.t); (· rfl); (conv => whnf); clear H; intro τ H) | rw [List.length_map]); (refine wX ?_)))
      refine ⟨(k + 1, tk2, τ), ⟨by dsimp only; omega, H⟩, by dsimp only; omega, Sub.refl _, ?_⟩
      rw [show (((k + 1 : Nat) : Int)) = (k : Int) + 1 by omega]
      (refine wX ?_)
      rw [show (takeN D em e (k + 1)).2 = k + 1 by rw [hs1]]
      (repeat' first | with_reducible exact EnvLe.refl _ | (refine EnvLe.node ?_ (by first | exact Or.inl rfl | exact Or.inr (Or.inl rfl) | exact Or.inr (Or.inr ⟨nofun, VLe.slice _ _ _⟩)) ?_))
    · (repeat ((first | refine zI (by omega) ?_ | refine zE (by omega) (by omega) ?_ | refine zD (by omega) (by omega) ?_ | refine zY (by omega) ?_ | refine zN (by omega) ?_ | refine amin ?_ | refine amax ?_ | refine zU (by omega) ?_ | refine z8 (by omega) ?_ | refine zX (by omega) (by omega) ?_ | refine zR rfl ?_ | refine acellA ?_ | (apply zL H; (· repeat first | exact .h | apply AtK.t); (· rfl)) | (apply zA H; (· repeat first | exact .h | apply AtK.t)) | (apply zS H; (· repeat first | exact .h | apply AtK.t); (· rfl); (conv => whnf); clear H; intro τ H) | rw [List.length_map]); (refine wX ?_)))
      refine hlook H (k := 5) rfl ?_
      rw [look_edge hem]
      rcases (show hasE em ((k : Int) + 1) = false ∨ hasE em ((k : Int) + 1) = true by cases hasE em ((k : Int) + 1) <;> simp) with hh | hh
      · have hs1 : takeN D em e (k + 1) = takeN D em e k := by rw [hst, if_neg (by rw [hh]; simp [hke])]
        rw [hh]
        (refine wX ?_)
        (repeat ((first | refine zI (by omega) ?_ | refine zE (by omega) (by omega) ?_ | refine zD (by omega) (by omega) ?_ | refine zY (by omega) ?_ | refine zN (by omega) ?_ | refine amin ?_ | refine amax ?_ | refine zU (by omega) ?_ | refine z8 (by omega) ?_ | refine zX (by omega) (by omega) ?_ | refine zR rfl ?_ | refine acellA ?_ | (apply zL H; (· repeat first | exact .h | apply AtK.t); (· rfl)) | (apply zA H; (· repeat first | exact .h | apply AtK.t)) | (apply zS H; (· repeat first | exact .h | apply AtK.t); (· rfl); (conv => whnf); clear H; intro τ H) | rw [List.length_map]); (refine wX ?_)))
        refine ⟨(k + 1, tk1, τ), ⟨by dsimp only; omega, H⟩, by dsimp only; omega, Sub.refl _, ?_⟩
        rw [show (((k + 1 : Nat) : Int)) = (k : Int) + 1 by omega]
        (refine wX ?_)
        rw [hs1]
        (repeat' first | with_reducible exact EnvLe.refl _ | (refine EnvLe.node ?_ (by first | exact Or.inl rfl | exact Or.inr (Or.inl rfl) | exact Or.inr (Or.inr ⟨nofun, VLe.slice _ _ _⟩)) ?_))
      · have hs1 : takeN D em e (k + 1) = ((takeN D em e k).1 ++ [(D.take (k + 1)).drop (takeN D em e k).2], k + 1) := by rw [hst, if_pos (.inr hh)]
        rw [hh]
        (refine wX ?_)
        (repeat ((first | refine zI (by omega) ?_ | refine zE (by omega) (by omega) ?_ | refine zD (by omega) (by omega) ?_ | refine zY (by omega) ?_ | refine zN (by omega) ?_ | refine amin ?_ | refine amax ?_ | refine zU (by omega) ?_ | refine z8 (by omega) ?_ | refine zX (by omega) (by omega) ?_ | refine zR rfl ?_ | refine acellA ?_ | (apply zL H; (· repeat first | exact .h | apply AtK.t); (· rfl)) | (apply zA H; (· repeat first | exact .h | apply AtK.t)) | (apply zS H; (· repeat first | exact .h | apply AtK.t); (· rfl); (conv => whnf); clear H; intro τ H) | rw [List.length_map]); (refine wX ?_)))
        refine acut (by omega) (by omega) (by omega) ?_
        (refine wX ?_)
        refine acutm (b := D) ⟨D, H.get (k := 6) rfl, by omega, by simp⟩ (by omega) (by omega) fun w hw2 => ?_
        rw [show ((k : Int) + 1).toNat = k + 1 by omega, Int.toNat_natCast] at hw2
        (refine wX ?_)
        refine acall_less (CloneS w _ τ hw2 (by rw [List.length_drop, List.length_take]; omega)) ?_
        rintro _ σ4 ⟨tk3, ho3, rfl⟩
        refine ⟨sl .none ((D.take (k + 1)).drop (takeN D em e k).2), τ, VLe.slice _ _ _, ho3.sub, ?_, Ext.refl _⟩
        (refine wX ?_)
        apply zP H
        · (repeat first | exact .h | apply AtK.t)
        · exact (by rw [List.length_map]; show (_ + 1) * 24 ≤ _; omega)
        intro tk2
        (conv => whnf)
        clear H
        intro τ H
        (refine wX ?_)
        rw [show (takeN D em e k).1.map (sl .none) ++ [sl .none ((D.take (k + 1)).drop (takeN D em e k).2)] = (takeN D em e (k + 1)).1.map (sl .none) by rw [hs1]; simp]
        (repeat ((first | refine zI (by omega) ?_ | refine zE (by omega) (by omega) ?_ | refine zD (by omega) (by omega) ?_ | refine zY (by omega) ?_ | refine zN (by omega) ?_ | refine amin ?_ | refine amax ?_ | refine zU (by omega) ?_ | refine z8 (by omega) ?_ | refine zX (by omega) (by omega) ?_ | refine zR rfl ?_ | refine acellA ?_ | (apply zL H; (· repeat first | exact .h | apply AtK.t); (· rfl)) | (apply zA H; (· repeat first | exact .h | apply AtK.t)) | (apply zS H; (· repeat first | exact .h | apply AtK.t); (· rfl); (conv => whnf); clear H; intro τ H) | rw [List.length_map]); (refine wX ?_)))
        refine ⟨(k + 1, tk2, τ), ⟨by dsimp only; omega, H⟩, by dsimp only; omega, Sub.refl _, ?_⟩
        rw [show (((k + 1 : Nat) : Int)) = (k : Int) + 1 by omega]
        (refine wX ?_)
        rw [show (takeN D em e (k + 1)).2 = k + 1 by rw [hs1]]
        (repeat' first | with_reducible exact EnvLe.refl _ | (refine EnvLe.node ?_ (by first | exact Or.inl rfl | exact Or.inr (Or.inl rfl) | exact Or.inr (Or.inr ⟨nofun, VLe.slice _ _ _⟩)) ?_))
  · obtain rfl : k = e.toNat := by omega
    (repeat ((first | refine zI (by omega) ?_ | refine zE (by omega) (by omega) ?_ | refine zD (by omega) (by omega) ?_ | refine zY (by omega) ?_ | refine zN (by omega) ?_ | refine amin ?_ | refine amax ?_ | refine zU (by omega) ?_ | refine z8 (by omega) ?_ | refine zX (by omega) (by omega) ?_ | refine zR rfl ?_ | refine acellA ?_ | (apply zL H; (· repeat first | exact .h | apply AtK.t); (· rfl)) | (apply zA H; (· repeat first | exact .h | apply AtK.t)) | (apply zS H; (· repeat first | exact .h | apply AtK.t); (· rfl); (conv => whnf); clear H; intro τ H) | rw [List.length_map]); (refine wX ?_)))
    apply zMd H
    · (repeat first | exact .h | apply AtK.t)
    (conv => whnf)
    clear H
    intro τ H
    (refine wX ?_)
    (repeat ((first | refine zI (by omega) ?_ | refine zE (by omega) (by omega) ?_ | refine zD (by omega) (by omega) ?_ | refine zY (by omega) ?_ | refine zN (by omega) ?_ | refine amin ?_ | refine amax ?_ | refine zU (by omega) ?_ | refine z8 (by omega) ?_ | refine zX (by omega) (by omega) ?_ | refine zR rfl ?_ | refine acellA ?_ | (apply zL H; (· repeat first | exact .h | apply AtK.t); (· rfl)) | (apply zA H; (· repeat first | exact .h | apply AtK.t)) | (apply zS H; (· repeat first | exact .h | apply AtK.t); (· rfl); (conv => whnf); clear H; intro τ H) | rw [List.length_map]); (refine wX ?_)))
    refine aret (VLe.tup (VLe.cons (VLe.refl _) (VLe.cons (VLe.slice _ _ _) (fun _ _ h => h)))) (Sub.refl _) ⟨rfl, H.tail⟩
end
end Go.Proofs.Ytgobbmdbkmjlnaa
/-
  What came in parts: how many bytes are there.
-/
namespace Go.Proofs.Ytgobbmdbkmjlnaa
set_option linter.unusedVariables false
set_option linter.unusedSimpArgs false
open Go Go.Am

/-- What is there, of each piece. -/
structure KeptB (σ : AHeap) (es : List (Int × AVal)) (dl : Int → List Sp) : Prop where
  at_ : ∀ e ∈ es, ∃ ip v is ed ig fi tk, e.2 = .ptr ip 0 ∧ σ ip = some (.cells (peC v is ed ig fi)) ∧ σ is = some (.cells [spL tk (dl e.1)]) ∧ SOk (dl e.1)
set_option maxRecDepth 20000 in
theorem buBytes {σ : AHeap} {ib im : Nat} {es : List (Int × AVal)} {dl : Int → List Sp} (b1 : σ ib = some (.cells (buC im))) (b2 : σ im = some (.map es)) (hn : es.length ≤ 100000) (hw : ∀ e ∈ es, inR e.1) (hk : KeptB σ es dl) :
    ACalls Try.prog i_rxbuf_Buffer_Bytes [.ptr ib 0] σ fun v σ' => v = i64v (dueSum dl (es.map (·.1))) ∧ σ' = σ := by
  refine k_rxbuf_Buffer_Bytes rfl ?_
  have H := Hp.nil σ
  (refine wX ?_)
  refine acall (buNumbers b1 b2 (by omega) hw) ?_
  rintro _ σ_ ⟨rfl, e_⟩
  obtain rfl := e_.symm
  refine ⟨?_, Ext.refl _⟩
  (refine wX ?_)
  obtain ⟨ks, hks⟩ : ∃ ks, ks = sortI (es.map (·.1)) := ⟨_, rfl⟩
  have hp : ks.Perm (es.map (·.1)) := hks ▸ sortI_perm _
  have hl : ks.length = es.length := by rw [hp.length_eq, List.length_map]
  rw [← hks, ← dueSum_perm hp]
  clear hks
  have hall : ∀ k ∈ ks, 0 ≤ cntL (dl k) ∧ cntL (dl k) ≤ 65536 := fun k hk' => by
    obtain ⟨e, he, _, rfl⟩ := find_key (hp.mem_iff.1 hk')
    obtain ⟨_, _, _, _, _, _, _, _, _, _, h⟩ := hk.at_ e he
    exact cntL_bound h
  (refine wX ?_)
  refine aloop (α := Nat × Int) (fun y => [(s9, i64v y.1), (s3, i64v y.2)]) (fun _ => σ) (fun y => y.1 ≤ ks.length ∧ y.2 = dueSum dl (ks.take y.1) ∧ 0 ≤ y.2 ∧ y.2 ≤ 65536 * (y.1 : Int)) (fun y => ks.length - y.1)
    (0, 0) ⟨Nat.zero_le _, rfl, by omega, by omega⟩ (Sub.refl _) ?_ ?_
  · (refine wX ?_)
    (repeat' first | with_reducible exact EnvLe.refl _ | (refine EnvLe.node ?_ (by first | exact Or.inl rfl | exact Or.inr (Or.inl rfl) | exact Or.inr (Or.inr ⟨nofun, VLe.slice _ _ _⟩)) ?_))
  rintro ⟨i, n⟩ ⟨hi, he, h0, h1⟩
  dsimp only at hi he h0 h1 ⊢
  (refine wX ?_)
  rw [List.length_map]
  by_cases h : i < ks.length
  · (repeat ((first | refine zI (by omega) ?_ | refine zE (by omega) (by omega) ?_ | refine zD (by omega) (by omega) ?_ | refine zY (by omega) ?_ | refine zN (by omega) ?_ | refine amin ?_ | refine amax ?_ | refine zU (by omega) ?_ | refine z8 (by omega) ?_ | refine zX (by omega) (by omega) ?_ | refine zR rfl ?_ | refine acellA ?_ | refine zB H b1 rfl ?_ | refine zC H b1 ?_ | refine zB H b2 rfl ?_ | refine zC H b2 ?_ | (apply zL H; (· repeat first | exact .h | apply AtK.t); (· rfl)) | (apply zA H; (· repeat first | exact .h | apply AtK.t)) | (apply zS H; (· repeat first | exact .h | apply AtK.t); (· rfl); (conv => whnf); clear H; intro τ H) | rw [List.length_map]); (refine wX ?_)))
    refine aget (by omega) (get_ints' h) ?_
    (refine wX ?_)
    refine acell rfl ?_
    (refine wX ?_)
    obtain ⟨e, hem, hf, hek⟩ := find_key (hp.mem_iff.1 (List.getElem_mem h))
    obtain ⟨ip, v, is, ed, ig, fi, tk, g1, g2, g3, g4⟩ := hk.at_ e hem
    have hb := hall ks[i] (List.getElem_mem h)
    (repeat ((first | refine zI (by omega) ?_ | refine zE (by omega) (by omega) ?_ | refine zD (by omega) (by omega) ?_ | refine zY (by omega) ?_ | refine zN (by omega) ?_ | refine amin ?_ | refine amax ?_ | refine zU (by omega) ?_ | refine z8 (by omega) ?_ | refine zX (by omega) (by omega) ?_ | refine zR rfl ?_ | refine acellA ?_ | refine zB H b1 rfl ?_ | refine zC H b1 ?_ | refine zB H b2 rfl ?_ | refine zC H b2 ?_ | (apply zL H; (· repeat first | exact .h | apply AtK.t); (· rfl)) | (apply zA H; (· repeat first | exact .h | apply AtK.t)) | (apply zS H; (· repeat first | exact .h | apply AtK.t); (· rfl); (conv => whnf); clear H; intro τ H) | rw [List.length_map]); (refine wX ?_)))
    refine hlookB H b2 ?_
    rw [hf]
    obtain ⟨ek, ev⟩ := e
    dsimp only at hek g1 g3 g4
    subst g1
    (refine wX ?_)
    refine zB H g2 rfl ?_
    (refine wX ?_)
    refine acall (sCount g3 g4.mid g4.mem) ?_
    rintro _ σ_ ⟨rfl, e_⟩
    obtain rfl := e_.symm
    refine ⟨?_, Ext.refl _⟩
    (refine wX ?_)
    rw [hek]
    (repeat ((first | refine zI (by omega) ?_ | refine zE (by omega) (by omega) ?_ | refine zD (by omega) (by omega) ?_ | refine zY (by omega) ?_ | refine zN (by omega) ?_ | refine amin ?_ | refine amax ?_ | refine zU (by omega) ?_ | refine z8 (by omega) ?_ | refine zX (by omega) (by omega) ?_ | refine zR rfl ?_ | refine acellA ?_ | refine zB H b1 rfl ?_ | refine zC H b1 ?_ | refine zB H b2 rfl ?_ | refine zC H b2 ?_ | (apply zL H; (· repeat first | exact .h | apply AtK.t); (· rfl)) | (apply zA H; (· repeat first | exact .h | apply AtK.t)) | (apply zS H; (· repeat first | exact .h | apply AtK.t); (· rfl); (conv => whnf); clear H; intro τ H) | rw [List.length_map]); (refine wX ?_)))
    refine ⟨(i + 1, n + cntL (dl ks[i])), ⟨h, ?_, ?_, ?_⟩, by dsimp only; omega, Sub.refl _, ?_⟩
    · dsimp only; rw [dueSum_take h, he]
    · dsimp only; omega
    · dsimp only; omega
    · (refine wX ?_)
      (repeat' first | with_reducible exact EnvLe.refl _ | (refine EnvLe.node ?_ (by first | exact Or.inl rfl | exact Or.inr (Or.inl rfl) | exact Or.inr (Or.inr ⟨nofun, VLe.slice _ _ _⟩)) ?_))
  · obtain rfl : i = ks.length := by omega
    rw [List.take_length] at he
    (repeat ((first | refine zI (by omega) ?_ | refine zE (by omega) (by omega) ?_ | refine zD (by omega) (by omega) ?_ | refine zY (by omega) ?_ | refine zN (by omega) ?_ | refine amin ?_ | refine amax ?_ | refine zU (by omega) ?_ | refine z8 (by omega) ?_ | refine zX (by omega) (by omega) ?_ | refine zR rfl ?_ | refine acellA ?_ | refine zB H b1 rfl ?_ | refine zC H b1 ?_ | refine zB H b2 rfl ?_ | refine zC H b2 ?_ | (apply zL H; (· repeat first | exact .h | apply AtK.t); (· rfl)) | (apply zA H; (· repeat first | exact .h | apply AtK.t)) | (apply zS H; (· repeat first | exact .h | apply AtK.t); (· rfl); (conv => whnf); clear H; intro τ H) | rw [List.length_map]); (refine wX ?_)))
    exact aret (VLe.refl _) H.sub ⟨by rw [he], rfl⟩
end Go.Proofs.Ytgobbmdbkmjlnaa
/-
  What came in parts: a buffer, whatever pieces it has.
-/
namespace Go.Proofs.Ytgobbmdbkmjlnaa
set_option linter.unusedVariables false
set_option linter.unusedSimpArgs false
set_option maxRecDepth 20000
open Go Go.Am

/-- A piece: its number, its bytes, what is there, its end, where fields begin, its FI. -/
structure PV where
  sn : Int
  D : List UInt8
  l : List Sp
  e : Int
  em : List (Int × AVal)
  fi : Int
structure PV.Ok (x : PV) : Prop where
  so : SOk x.l
  inD : ∀ y ∈ x.l, y.2 ≤ (x.D.length : Int)
  dl : x.D.length ≤ 4000
  em : AllT x.em
  sn : inR x.sn
/-- A piece in the heap. -/
structure PX where
  pv : PV
  ip : Nat
  is : Nat
  ig : Nat
  v : AVal
  E : List HE
  tk : Tok
abbrev PX.hd (x : PX) : List HE := [.o x.ip (.cells (peC x.v x.is x.pv.e x.ig x.pv.fi)), .o x.is (.cells [spL x.tk x.pv.l]), .o x.ig (.map x.pv.em)]
def flatX : List PX → List HE
  | [] => []
  | x :: X => x.hd ++ (x.E ++ flatX X)
theorem flatX_append : ∀ (A B : List PX), flatX (A ++ B) = flatX A ++ flatX B
  | [], B => rfl
  | x :: A, B => by
    show x.hd ++ (x.E ++ flatX (A ++ B)) = (x.hd ++ (x.E ++ flatX A)) ++ flatX B
    rw [flatX_append A B, List.append_assoc, List.append_assoc]
abbrev esX (X : List PX) : List (Int × AVal) := X.map fun x => (x.pv.sn, .ptr x.ip 0)
abbrev XL (ib im : Nat) (X : List PX) (G : List HE) : List HE := .o ib (.cells (buC im)) :: .o im (.map (esX X)) :: (flatX X ++ G)
structure XOk (X : List PX) : Prop where
  nd : (X.map (·.pv.sn)).Nodup
  ok : ∀ x ∈ X, x.pv.Ok
  rb : ∀ x ∈ X, RB x.v x.pv.D x.E
  len : X.length ≤ 10000
def findS (S : List PV) (sn : Int) : Option PV := S.find? fun x => x.sn == sn
def lS (S : List PV) (sn : Int) : List Sp := match findS S sn with
  | some x => x.l
  | none => []
def eS (S : List PV) (sn : Int) : Int := match findS S sn with
  | some x => x.e
  | none => -1
def wholeS (S : List PV) (sn : Int) : Bool := match findS S sn with
  | some x => wholeV x.l x.e
  | none => false
def missS (S : List PV) (sn : Int) : List Sp := match findS S sn with
  | some x => missL x.l x.e
  | none => []
def bytesS (S : List PV) : Int := (S.map fun x => cntL x.l).sum
def updV (x : PV) (p : Pk) : PV := ⟨x.sn, fillB x.l p.off.toNat p.fs.flatten x.D, addS (spanP p) x.l, noteE p (endsB p) x.e, noteM p (endsB p) x.em, noteF p (endsB p) x.fi⟩
def freshV (sn : Int) : PV := ⟨sn, [], [], -1, [], 0⟩
def putS (S : List PV) (p : Pk) : Int := putK p (lS S p.sn) (eS S p.sn)
def putV (S : List PV) (p : Pk) : List PV :=
  if putS S p ≠ 0 then S else match findS S p.sn with
    | some _ => S.map fun x => if x.sn = p.sn then updV x p else x
    | none => S ++ [updV (freshV p.sn) p]
abbrev pvs (X : List PX) : List PV := X.map (·.pv)

theorem findX {X : List PX} (hnd : (X.map (·.pv.sn)).Nodup) (sn : Int) :
    (∃ A x B, X = A ++ x :: B ∧ x.pv.sn = sn ∧ (esX X).find? (fun e => e.1 == sn) = some (sn, .ptr x.ip 0) ∧ findS (pvs X) sn = some x.pv ∧ (∀ y ∈ A, y.pv.sn ≠ sn) ∧ (∀ y ∈ B, y.pv.sn ≠ sn)) ∨
    ((∀ x ∈ X, x.pv.sn ≠ sn) ∧ (esX X).find? (fun e => e.1 == sn) = none ∧ findS (pvs X) sn = none) := by
  induction X with
  | nil => exact .inr ⟨nofun, rfl, rfl⟩
  | cons a X ih =>
    rw [List.map_cons, List.nodup_cons] at hnd
    by_cases h : a.pv.sn = sn
    · refine .inl ⟨[], a, X, rfl, h, ?_, ?_, nofun, fun y hy e => hnd.1 (by rw [h, ← e]; exact List.mem_map_of_mem (f := fun x : PX => x.pv.sn) hy)⟩
      · show List.find? _ ((a.pv.sn, AVal.ptr a.ip 0) :: esX X) = _
        rw [List.find?_cons]; simp [h]
      · show List.find? _ (a.pv :: pvs X) = _
        rw [List.find?_cons]; simp [h]
    · have hb : (a.pv.sn == sn) = false := by simp [h]
      have q1 : (esX (a :: X)).find? (fun e => e.1 == sn) = (esX X).find? (fun e => e.1 == sn) := by
        show List.find? _ ((a.pv.sn, AVal.ptr a.ip 0) :: esX X) = _
        rw [List.find?_cons]; dsimp only; rw [hb]
      have q2 : findS (pvs (a :: X)) sn = findS (pvs X) sn := by
        show List.find? _ (a.pv :: pvs X) = _
        rw [List.find?_cons, hb]; rfl
      rw [q1, q2]
      rcases ih hnd.2 with ⟨A, x, B, rfl, h1, h2, h3, h4, h5⟩ | ⟨h1, h2, h3⟩
      · refine .inl ⟨a :: A, x, B, rfl, h1, h2, h3, fun y hy => ?_, h5⟩
        rcases List.mem_cons.1 hy with rfl | hy
        · exact h
        · exact h4 y hy
      · refine .inr ⟨fun y hy => ?_, h2, h3⟩
        rcases List.mem_cons.1 hy with rfl | hy
        · exact h
        · exact h1 y hy
section
variable {σb σ : AHeap} {ib im : Nat} {X A B : List PX} {x : PX} {G : List HE} {o1 o2 : HE}
theorem XL.outX (H : Hp σb (o1 :: o2 :: (flatX (A ++ x :: B) ++ G)) σ) : Hp σb (x.hd ++ (o1 :: o2 :: (x.E ++ (flatX A ++ (flatX B ++ G))))) σ := by
  rw [flatX_append, show flatX (x :: B) = x.hd ++ (x.E ++ flatX B) from rfl, List.append_assoc, List.append_assoc, List.append_assoc] at H
  have H := Hp.mid2 (A := [o1, o2]) (B := flatX A) (C := x.hd) H
  have H := Hp.mid2 (A := [o1, o2] ++ x.hd) (B := flatX A) (C := x.E) (D := flatX B ++ G) (by rw [List.append_assoc]; exact H)
  rw [List.append_assoc] at H
  exact Hp.mid (A := [o1, o2]) (B := x.hd) H
theorem XL.backX (H : Hp σb (x.hd ++ (o1 :: o2 :: (x.E ++ (flatX A ++ (flatX B ++ G))))) σ) : Hp σb (o1 :: o2 :: (flatX (A ++ x :: B) ++ G)) σ := by
  rw [flatX_append, show flatX (x :: B) = x.hd ++ (x.E ++ flatX B) from rfl, List.append_assoc, List.append_assoc, List.append_assoc]
  have H := Hp.mid (A := x.hd) (B := [o1, o2]) H
  have H := Hp.mid2 (A := [o1, o2] ++ x.hd) (B := x.E) (C := flatX A) (D := flatX B ++ G) (by rw [List.append_assoc]; exact H)
  rw [List.append_assoc] at H
  exact Hp.mid2 (A := [o1, o2]) (B := x.hd) (C := flatX A) H
theorem XL.at_ (H : Hp σb (XL ib im X G) σ) (hx : x ∈ X) : σ x.ip = some (.cells (peC x.v x.is x.pv.e x.ig x.pv.fi)) ∧ σ x.is = some (.cells [spL x.tk x.pv.l]) := by
  obtain ⟨A, B, rfl⟩ := List.append_of_mem hx
  have K := XL.outX H
  exact ⟨K.get (k := 0) rfl, K.get (k := 1) rfl⟩
theorem xWhole (H : Hp σb (XL ib im X G) σ) (ok : XOk X) (sn : Int) : ACalls Try.prog i_rxbuf_Buffer_Whole [.ptr ib 0, i64v sn] σ fun v σ' => v = boolv (wholeS (pvs X) sn) ∧ σ' = σ := by
  unfold wholeS
  rcases findX ok.nd sn with ⟨A, x, B, hX, h1, h2, h3, _⟩ | ⟨h1, h2, h3⟩
  · have hx : x ∈ X := by rw [hX]; simp
    rw [h3]
    obtain ⟨g1, g2⟩ := XL.at_ H hx
    exact buWhole (H.get (k := 0) rfl) (H.get (k := 1) rfl) sn h2 g1 g2 (ok.ok x hx).so.mid
  · rw [h3]
    exact buWholeNone (H.get (k := 0) rfl) (H.get (k := 1) rfl) sn h2
theorem xMissing (H : Hp σb (XL ib im X G) σ) (ok : XOk X) (sn : Int) : ACalls Try.prog i_rxbuf_Buffer_Missing [.ptr ib 0, i64v sn] σ fun v σ' => v = spL .none (missS (pvs X) sn) ∧ σ' = σ := by
  unfold missS
  rcases findX ok.nd sn with ⟨A, x, B, hX, h1, h2, h3, _⟩ | ⟨h1, h2, h3⟩
  · have hx : x ∈ X := by rw [hX]; simp
    rw [h3]
    obtain ⟨g1, g2⟩ := XL.at_ H hx
    refine acall_less (buMissing (H.get (k := 0) rfl) (H.get (k := 1) rfl) sn h2 g1 g2 (ok.ok x hx).so) ?_
    rintro _ σ' ⟨u, hu, rfl⟩
    exact ⟨_, σ, VLe.slice _ _ _, hu.sub, rfl, rfl⟩
  · rw [h3]
    refine acall_less (buMissingNone (H.get (k := 0) rfl) (H.get (k := 1) rfl) sn h2) ?_
    rintro _ σ' ⟨rfl, rfl⟩
    exact ⟨_, _, VLe.slice _ _ _, Sub.refl _, rfl, rfl⟩
theorem lS_of {x : PX} (ok : XOk X) (hx : x ∈ X) : lS (pvs X) x.pv.sn = x.pv.l := by
  unfold lS
  rcases findX ok.nd x.pv.sn with ⟨A, y, B, hX, h1, h2, h3, h4, h5⟩ | ⟨h1, _⟩
  · rw [h3]
    rw [hX] at hx
    rcases List.mem_append.1 hx with hx | hx
    · exact absurd rfl (h4 x hx)
    · rcases List.mem_cons.1 hx with rfl | hx
      · rfl
      · exact absurd rfl (h5 x hx)
  · exact absurd rfl (h1 x hx)
theorem xBytes (H : Hp σb (XL ib im X G) σ) (ok : XOk X) : ACalls Try.prog i_rxbuf_Buffer_Bytes [.ptr ib 0] σ fun v σ' => v = i64v (bytesS (pvs X)) ∧ σ' = σ := by
  have := buBytes (dl := lS (pvs X)) (H.get (k := 0) rfl) (H.get (k := 1) rfl) (by rw [List.length_map]; have := ok.len; omega) (fun e he => by obtain ⟨x, hx, rfl⟩ := List.mem_map.1 he; exact (ok.ok x hx).sn)
    ⟨fun e he => by
      obtain ⟨x, hx, rfl⟩ := List.mem_map.1 he
      obtain ⟨g1, g2⟩ := XL.at_ H hx
      exact ⟨x.ip, x.v, x.is, x.pv.e, x.ig, x.pv.fi, x.tk, rfl, g1, by rw [lS_of ok hx]; exact g2, by rw [lS_of ok hx]; exact (ok.ok x hx).so⟩⟩
  have e : dueSum (lS (pvs X)) ((esX X).map (·.1)) = bytesS (pvs X) := by
    unfold dueSum bytesS
    rw [List.map_map, List.map_map, List.map_map]
    congr 1
    refine List.map_congr_left fun x hx => ?_
    show cntL (lS (pvs X) x.pv.sn) = cntL x.pv.l
    rw [lS_of ok hx]
  rw [e] at this
  exact this
end
end Go.Proofs.Ytgobbmdbkmjlnaa
/-
  What came in parts: what Put and Take do with a buffer, whatever pieces it has.
-/
namespace Go.Proofs.Ytgobbmdbkmjlnaa
set_option linter.unusedVariables false
set_option linter.unusedSimpArgs false
set_option maxRecDepth 20000
open Go Go.Am

theorem putK_zero {p : Pk} {l : List Sp} {e : Int} (h : putK p l e = 0) : rightB p = true ∧ fitsC l e (spanP p) (endsB p) = 0 ∧ addC (spanP p) l = 0 := by
  unfold putK at h
  split at h
  · cases h
  · rename_i hr
    have hr : rightB p = true := by simpa using hr
    split at h
    · rename_i hc; exact absurd h hc
    · rename_i hc
      exact ⟨hr, Decidable.byContradiction hc, h⟩
theorem PV.Ok.upd {x : PV} (h : x.Ok) {p : Pk} (hk : putK p x.l x.e = 0) : (updV x p).Ok := by
  obtain ⟨hr, hc, ha⟩ := putK_zero hk
  obtain ⟨g1, g2, g3, g4, g5, g6, g7, g8, g9⟩ := right_ok hr
  have htl : p.fs.flatten.length = total p.fs := rfl
  have hlen : (fillB x.l p.off.toNat p.fs.flatten x.D).length = max x.D.length (p.off.toNat + p.fs.flatten.length) := fillB_len _ _ _ _
  have hdl := h.dl
  refine ⟨h.so.add _, fun y hy => ?_, ?_, h.em.noteM, h.sn⟩
  · have hn := (h.so.add (spanP p)).n.mem hy
    have hp : hasP (addS (spanP p) x.l) (y.2 - 1) := ⟨y, hy, by omega, by omega⟩
    show y.2 ≤ ((fillB x.l p.off.toNat p.fs.flatten x.D).length : Int)
    rw [hlen]
    rcases (add_has h.so ha _).1 hp with ⟨z, hz, h1, h2⟩ | ⟨h1, h2⟩
    · have := h.inD z hz; omega
    · unfold spanP at h2; dsimp only at h2; omega
  · show (fillB x.l p.off.toNat p.fs.flatten x.D).length ≤ 4000
    rw [hlen]; omega
theorem PV.Ok.fresh {sn : Int} (h : inR sn) : (freshV sn).Ok := ⟨SOk.nil, nofun, by simp [freshV], nofun, h⟩
theorem map_upd {A B : List PV} {x : PV} {p : Pk} (hx : x.sn = p.sn) (hA : ∀ y ∈ A, y.sn ≠ p.sn) (hB : ∀ y ∈ B, y.sn ≠ p.sn) :
    (A ++ x :: B).map (fun x => if x.sn = p.sn then updV x p else x) = A ++ updV x p :: B := by
  have id_ : ∀ (L : List PV), (∀ y ∈ L, y.sn ≠ p.sn) → L.map (fun x => if x.sn = p.sn then updV x p else x) = L := by
    intro L hL
    induction L with
    | nil => rfl
    | cons a L ih => rw [List.map_cons, if_neg (hL a (List.mem_cons_self ..)), ih fun y hy => hL y (List.mem_cons_of_mem _ hy)]
  rw [List.map_append, List.map_cons, if_pos hx, id_ A hA, id_ B hB]
section
variable {σb σ : AHeap} {ib im : Nat} {X A B : List PX} {x : PX} {G : List HE}
theorem XOk.swap {x' : PX} (ok : XOk (A ++ x :: B)) (hs : x'.pv.sn = x.pv.sn) (h1 : x'.pv.Ok) (h2 : RB x'.v x'.pv.D x'.E) : XOk (A ++ x' :: B) := by
  refine ⟨?_, fun y hy => ?_, fun y hy => ?_, ?_⟩
  · have := ok.nd
    rw [List.map_append, List.map_cons] at this ⊢
    rw [hs]; exact this
  · rcases List.mem_append.1 hy with hy | hy
    · exact ok.ok y (by simp [hy])
    · rcases List.mem_cons.1 hy with rfl | hy
      · exact h1
      · exact ok.ok y (by simp [hy])
  · rcases List.mem_append.1 hy with hy | hy
    · exact ok.rb y (by simp [hy])
    · rcases List.mem_cons.1 hy with rfl | hy
      · exact h2
      · exact ok.rb y (by simp [hy])
  · have := ok.len
    simp at this ⊢; exact this
theorem xPut (H : Hp σb (XL ib im X G) σ) (ok : XOk X) (hlen : X.length < 10000) (p : Pk) (hl : p.fs.length ≤ 1000) (ht : total p.fs ≤ 1000000) (hsn : inR p.sn) :
    ACalls Try.prog i_rxbuf_Buffer_Put [.ptr ib 0, amV p] σ fun r σ' => r = i64v (putS (pvs X) p) ∧ ∃ X', Hp σb (XL ib im X' G) σ' ∧ pvs X' = putV (pvs X) p ∧ XOk X' ∧ X'.length ≤ X.length + 1 := by
  rcases findX ok.nd p.sn with ⟨A, x, B, hX, h1, h2, h3, h4, h5⟩ | ⟨h1, h2, h3⟩
  · have hx : x ∈ X := by rw [hX]; simp
    have hxo := ok.ok x hx
    have hdl := hxo.dl
    have hS : putS (pvs X) p = putK p x.pv.l x.pv.e := by unfold putS lS eS; rw [h3]
    have hV : putV (pvs X) p = if putK p x.pv.l x.pv.e ≠ 0 then pvs X else (pvs X).map fun x => if x.sn = p.sn then updV x p else x := by unfold putV; rw [hS, h3]
    rw [hS, hV]
    subst hX
    refine acall_less (buPutOld (ok.rb x hx) (XL.outX H) p h2 hxo.so (by omega) hl ht) ?_
    rintro _ σ' ⟨rfl, ⟨hk, u, K⟩ | ⟨hk, v2, E2, u, hr, K⟩⟩
    · refine ⟨_, _, VLe.refl _, Sub.refl _, rfl, A ++ { x with tk := u } :: B, ?_, ?_, ok.swap rfl hxo (ok.rb x hx), by simp⟩
      · have e : esX (A ++ { x with tk := u } :: B) = esX (A ++ x :: B) := by simp [esX]
        show Hp σb (.o ib (.cells (buC im)) :: .o im (.map (esX (A ++ { x with tk := u } :: B))) :: (flatX (A ++ { x with tk := u } :: B) ++ G)) σ'
        rw [e]
        exact XL.backX (x := { x with tk := u }) K
      · rw [if_pos hk]; simp [pvs]
    · have hpo := PV.Ok.upd hxo hk
      let x' : PX := ⟨updV x.pv p, x.ip, x.is, x.ig, v2, E2, u⟩
      refine ⟨_, _, VLe.refl _, Sub.refl _, rfl, A ++ x' :: B, ?_, ?_, ok.swap rfl hpo hr, by simp⟩
      · have e : esX (A ++ x' :: B) = esX (A ++ x :: B) := by simp [esX, x', updV]
        show Hp σb (.o ib (.cells (buC im)) :: .o im (.map (esX (A ++ x' :: B))) :: (flatX (A ++ x' :: B) ++ G)) σ'
        rw [e]
        exact XL.backX (x := x') K
      · rw [if_neg (by simpa using hk)]
        show (A ++ x' :: B).map (·.pv) = ((A ++ x :: B).map (·.pv)).map _
        rw [List.map_append, List.map_append, List.map_cons, List.map_cons]
        refine (map_upd h1 (fun y hy => ?_) (fun y hy => ?_)).symm
        · obtain ⟨z, hz, rfl⟩ := List.mem_map.1 hy; exact h4 z hz
        · obtain ⟨z, hz, rfl⟩ := List.mem_map.1 hy; exact h5 z hz
  · have hS : putS (pvs X) p = putK p [] (-1) := by unfold putS lS eS; rw [h3]
    have hV : putV (pvs X) p = if putK p [] (-1) ≠ 0 then pvs X else pvs X ++ [updV (freshV p.sn) p] := by unfold putV; rw [hS, h3]
    rw [hS, hV]
    refine acall_less (buPutNew H p h2 hl ht) ?_
    rintro _ σ' ⟨rfl, ⟨hk, K⟩ | ⟨hk, ip, is, ig, v2, E2, u, hr, K⟩⟩
    · exact ⟨_, _, VLe.refl _, Sub.refl _, rfl, X, K, by rw [if_pos hk], ok, by omega⟩
    · have hpo := PV.Ok.upd (PV.Ok.fresh hsn) (p := p) hk
      let x' : PX := ⟨updV (freshV p.sn) p, ip, is, ig, v2, E2, u⟩
      refine ⟨_, _, VLe.refl _, Sub.refl _, rfl, X ++ [x'], ?_, by rw [if_neg (by simpa using hk)]; simp [pvs, x'], ?_, by simp⟩
      · have e : esX (X ++ [x']) = esX X ++ [(p.sn, .ptr ip 0)] := by simp [esX, x', updV, freshV]
        show Hp σb (.o ib (.cells (buC im)) :: .o im (.map (esX (X ++ [x']))) :: (flatX (X ++ [x']) ++ G)) σ'
        rw [e]
        refine XL.backX (A := X) (B := []) (x := x') ?_
        exact Hp.mid2 (A := x'.hd ++ [.o ib (.cells (buC im)), .o im (.map (esX X ++ [(p.sn, .ptr ip 0)]))]) (B := []) (C := E2) (D := flatX X ++ G) K
      · refine ⟨?_, fun y hy => ?_, fun y hy => ?_, ?_⟩
        · rw [List.map_append]
          refine List.nodup_append.2 ⟨ok.nd, by simp, fun a ha b hb e => ?_⟩
          obtain ⟨z, hz, rfl⟩ := List.mem_map.1 ha
          simp [x', updV, freshV] at hb
          exact h1 z hz (by rw [e, hb])
        · rcases List.mem_append.1 hy with hy | hy
          · exact ok.ok y hy
          · rw [List.mem_singleton.1 hy]; exact hpo
        · rcases List.mem_append.1 hy with hy | hy
          · exact ok.rb y hy
          · rw [List.mem_singleton.1 hy]; exact hr
        · simp; omega
/-- What Take leaves. -/
def takeS (S : List PV) (sn : Int) : List PV := if wholeS S sn = true then S.filter fun x => decide (x.sn ≠ sn) else S
def takeC (S : List PV) (sn : Int) : Int := match findS S sn with
  | none => 4
  | some x => if wholeV x.l x.e = true then 0 else 8
def takeF (S : List PV) (sn : Int) : Int × List (List UInt8) := match findS S sn with
  | none => (0, [])
  | some x => if wholeV x.l x.e = true then (x.fi, (takeN x.D x.em x.e x.e.toNat).1) else (0, [])
theorem mapDel_split {A B : List PX} {x : PX} {sn : Int} (hx : x.pv.sn = sn) (hA : ∀ y ∈ A, y.pv.sn ≠ sn) : mapDel (esX (A ++ x :: B)) sn = esX (A ++ B) := by
  induction A with
  | nil => simp [esX, mapDel, hx]
  | cons a A ih =>
    have := ih fun y hy => hA y (List.mem_cons_of_mem _ hy)
    have h0 := hA a (List.mem_cons_self ..)
    simp [esX, mapDel, h0] at this ⊢
    exact this
theorem xTake (H : Hp σb (XL ib im X G) σ) (ok : XOk X) (sn : Int) :
    ACalls Try.prog i_rxbuf_Buffer_Take [.ptr ib 0, i64v sn] σ fun r σ' => r = .tup [i64v (takeF (pvs X) sn).1, lists .none (takeF (pvs X) sn).2, i64v (takeC (pvs X) sn)] ∧ ∃ X', Hp σb (XL ib im X' G) σ' ∧ pvs X' = takeS (pvs X) sn ∧ XOk X' ∧ X'.length ≤ X.length := by
  unfold takeF takeC takeS wholeS
  rcases findX ok.nd sn with ⟨A, x, B, hX, h1, h2, h3, h4, h5⟩ | ⟨h1, h2, h3⟩
  · have hx : x ∈ X := by rw [hX]; simp
    have hxo := ok.ok x hx
    have hdl := hxo.dl
    rw [h3]
    dsimp only
    rcases (show wholeV x.pv.l x.pv.e = false ∨ wholeV x.pv.l x.pv.e = true by cases wholeV x.pv.l x.pv.e <;> simp) with hw | hw
    · rw [if_neg (by rw [hw]; simp), if_neg (by rw [hw]; simp), if_neg (by rw [hw]; simp)]
      obtain ⟨g1, g2⟩ := XL.at_ H hx
      refine acall_less (buTakeShort (H.get (k := 0) rfl) (H.get (k := 1) rfl) sn h2 g1 g2 hxo.so hw) ?_
      rintro _ σ' ⟨rfl, rfl⟩
      exact ⟨_, _, VLe.tup (VLe.cons (VLe.refl _) (VLe.cons (VLe.slice _ _ _) fun _ _ h => h)), Sub.refl _, rfl, X, H, rfl, ok, Nat.le_refl _⟩
    · rw [if_pos hw, if_pos hw, if_pos hw]
      have hD : x.pv.e ≤ (x.pv.D.length : Int) := by
        unfold wholeV hasS at hw
        rw [Bool.and_eq_true, Bool.and_eq_true] at hw
        obtain ⟨y, hy, h⟩ := List.any_eq_true.1 hw.2.2
        have := hxo.inD y hy
        have := of_decide_eq_true h
        dsimp only at this
        omega
      subst hX
      have K := XL.outX H
      replace K : Hp σb (.o ib (.cells (buC im)) :: .o im (.map (esX (A ++ x :: B))) :: (x.hd ++ (x.E ++ (flatX A ++ (flatX B ++ G))))) σ := Hp.mid (A := x.hd) (B := [.o ib (.cells (buC im)), .o im (.map (esX (A ++ x :: B)))]) K
      refine acall_less (buTake (ok.rb x hx) K sn h2 hxo.so hw hD (by omega) hxo.em) ?_
      rintro _ σ' ⟨rfl, K⟩
      rw [mapDel_split h1 h4] at K
      refine ⟨_, _, VLe.refl _, Sub.refl _, rfl, A ++ B, ?_, ?_, ?_, by simp⟩
      · have K := Hp.rest (A := x.hd) (Hp.mid (A := [.o ib (.cells (buC im)), .o im (.map (esX (A ++ B)))]) (B := x.hd) K)
        have K := Hp.rest (A := x.E) (Hp.mid (A := [.o ib (.cells (buC im)), .o im (.map (esX (A ++ B)))]) (B := x.E) K)
        show Hp σb (.o ib (.cells (buC im)) :: .o im (.map (esX (A ++ B))) :: (flatX (A ++ B) ++ G)) σ'
        rw [flatX_append, List.append_assoc]
        exact K
      · show (A ++ B).map (·.pv) = ((A ++ x :: B).map (·.pv)).filter _
        rw [List.map_append, List.map_append, List.map_cons, List.filter_append, List.filter_cons]
        rw [if_neg (by simp [h1])]
        rw [List.filter_eq_self.2, List.filter_eq_self.2]
        · intro y hy; obtain ⟨z, hz, rfl⟩ := List.mem_map.1 hy; exact decide_eq_true (h5 z hz)
        · intro y hy; obtain ⟨z, hz, rfl⟩ := List.mem_map.1 hy; exact decide_eq_true (h4 z hz)
      · refine ⟨?_, fun y hy => ok.ok y ?_, fun y hy => ok.rb y ?_, ?_⟩
        · have := ok.nd
          rw [List.map_append, List.map_cons] at this
          rw [List.map_append]
          exact this.sublist (List.Sublist.append_left (List.sublist_cons_self _ _) _)
        · rcases List.mem_append.1 hy with hy | hy <;> simp [hy]
        · rcases List.mem_append.1 hy with hy | hy <;> simp [hy]
        · have := ok.len
          simp at this ⊢; omega
  · rw [h3]
    dsimp only
    rw [if_neg (by simp)]
    refine acall_less (buTakeNone (H.get (k := 0) rfl) (H.get (k := 1) rfl) sn h2) ?_
    rintro _ σ' ⟨rfl, rfl⟩
    exact ⟨_, _, VLe.tup (VLe.cons (VLe.refl _) (VLe.cons (VLe.slice _ _ _) fun _ _ h => h)), Sub.refl _, rfl, X, H, rfl, ok, Nat.le_refl _⟩
end
end Go.Proofs.Ytgobbmdbkmjlnaa
