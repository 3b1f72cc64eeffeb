/-
  Texts of this claim, pack 6: Crxba, Cqrow, Crxbb, Crxbc, Crxbd, Cmsa, Crxbe, Crxbf, Crxbg, Crxbh, Cpkx, Cgreat, Claw24a, Claw24b, Crxs, Ceql, Csamef, Crefsz, Camdb, Cpcs, Cresg, Cresp.
-/
import Derived.Test.YtgbpjbpdpgbngaaK3
import Derived.Test.YtgbpjbpdpgbngaaK5
set_option linter.unusedSimpArgs false
set_option linter.unusedVariables false
/-
  What came in parts: plain contracts of what a buffer does.
-/
namespace Go.Proofs.Ytgbpjbpdpgbngaa
set_option maxRecDepth 20000
open Go Go.Am

theorem buEmpty (b : List UInt8) (σ : AHeap) : ACalls Try.prog i_rxbuf_right_1 [sl .none b] σ fun v σ' => v = boolv (decide (b = [])) ∧ σ' = σ := by
  refine k_rxbuf_right_1 rfl ?_
  (refine wX ?_)
  refine aret_same ⟨?_, rfl⟩
  rw [List.length_map]
  exact congrArg boolv (dec_congr ⟨fun h => List.length_eq_zero_iff.1 (by omega), fun h => by subst h; rfl⟩)
/-- Is one of them empty? -/
def hollowB (l : List (List UInt8)) : Bool := l.any fun b => decide (b = [])
theorem buIndex (l : List (List UInt8)) (t : Tok) (σ : AHeap) (hl : l.length ≤ 140737488355328) : ACalls Try.prog i_slices_IndexFunc_byte_byte [lists t l, .func i_rxbuf_right_1 [] []] σ fun v σ' => (∃ n : Int, v = i64v n ∧ (n ≥ 0 ↔ hollowB l = true)) ∧ σ' = σ := by
  refine k_slices_IndexFunc_byte_byte rfl ?_
  (refine wX ?_)
  refine aloop (α := Nat) (fun i => [(s8, i64v i)]) (fun _ => σ) (fun i => i ≤ l.length ∧ hollowB (l.take i) = false) (fun i => l.length - i) 0 ⟨Nat.zero_le _, rfl⟩ (Sub.refl _) ?_ ?_
  · (refine wX ?_)
    exact elX
  rintro i ⟨hi, hw⟩
  by_cases h : i < l.length
  · (refine wX ?_)
    (repeat ((first | refine abr_yes (by omega) ?_ | rw [List.length_map]); (refine wX ?_)))
    refine aget (by omega) (get_lists h) ?_
    (refine wX ?_)
    refine acell rfl ?_
    (refine wX ?_)
    refine ⟨rfl, ?_⟩
    (refine wX ?_)
    refine acall (buEmpty l[i] _) ?_
    rintro _ σ_ ⟨rfl, e_⟩
    obtain rfl := e_.symm
    (refine wX ?_)
    have e : hollowB (l.take (i + 1)) = decide (l[i] = []) := by unfold hollowB at hw ⊢; rw [List.take_add_one, List.getElem?_eq_getElem h, List.any_append, hw]; simp
    by_cases hc : l[i] = []
    · rw [decide_eq_true hc]
      (refine wX ?_)
      refine aret_same ⟨⟨_, rfl, ⟨fun _ => ?_, fun _ => by omega⟩⟩, rfl⟩
      exact List.any_eq_true.2 ⟨l[i], List.getElem_mem h, decide_eq_true hc⟩
    · rw [decide_eq_false hc] at e ⊢
      (refine wX ?_)
      (repeat ((refine afit_i64 (by omega) ?_); (refine wX ?_)))
      refine ⟨i + 1, ⟨by omega, e⟩, by omega, Sub.refl _, ?_⟩
      (refine wX ?_)
      exact elX
  · rw [List.take_of_length_le (by omega)] at hw
    (refine wX ?_)
    (repeat ((first | refine abr_no (by omega) ?_ | rw [List.length_map]); (refine wX ?_)))
    exact aret_same ⟨⟨-1, rfl, ⟨fun h => by omega, fun h => by rw [hw] at h; cases h⟩⟩, rfl⟩
theorem buContains (l : List (List UInt8)) (t : Tok) (σ : AHeap) (hl : l.length ≤ 140737488355328) : ACalls Try.prog i_slices_ContainsFunc_byte_byte [lists t l, .func i_rxbuf_right_1 [] []] σ fun v σ' => v = boolv (hollowB l) ∧ σ' = σ := by
  refine k_slices_ContainsFunc_byte_byte rfl ?_
  (refine wX ?_)
  refine acall (buIndex l t _ hl) ?_
  rintro _ σ_ ⟨⟨n, rfl, hn⟩, e_⟩
  obtain rfl := e_.symm
  refine ⟨?_, Ext.refl _⟩
  (refine wX ?_)
  have e : hollowB l = decide (0 ≤ n) := by
    cases hh : hollowB l with
    | true => exact (decide_eq_true (hn.2 hh)).symm
    | false => exact (decide_eq_false (fun k => by rw [hn.1 k] at hh; cases hh)).symm
  rw [e]
  exact aret_same ⟨congrArg boolv (dec_congr Iff.rfl), rfl⟩

/-- A piece's cells: its bytes, what is there, its end (-1: unknown), where fields begin, its FI. -/
abbrev peC (v : AVal) (is : Nat) (e : Int) (ig : Nat) (fi : Int) : List AVal := [v, .ptr is 0, i64v e, .map ig, i64v fi]
abbrev buC (im : Nat) : List AVal := [.map im]
def topL (l : List Sp) : Int := match l.getLast? with
  | none => 0
  | some y => y.2
def wholeV (l : List Sp) (e : Int) : Bool := decide (e > 0) && hasS (0, e) l
def fitsC (l : List Sp) (e : Int) (y : Sp) (ends : Bool) : Int :=
  if (e ≠ -1 ∧ (y.2 > e ∨ (ends = true ∧ y.2 ≠ e))) ∨ (ends = true ∧ topL l > y.2) then 3 else if hasS y l = true then 12 else 0
def rightB (p : Pk) : Bool := !(decide (p.fs.length < 1) || decide (p.fs.length > 24) || hollowB p.fs || decide (p.fi < 0) || decide (p.fi > 3)) && (decide (0 ≤ p.off) && decide (p.off ≤ 4000) && (p.part || decide (p.off = 0)) && decide ((total p.fs : Int) ≤ 4000 - p.off))

section
variable {σ : AHeap} {ib im ip is ig : Nat} {e fi : Int} {es : List (Int × AVal)} {l : List Sp} {tk : Tok} {v : AVal}
theorem buMade (b1 : σ ib = some (.cells (buC im))) : ACalls Try.prog i_rxbuf_Buffer_made [.ptr ib 0] σ fun v σ' => v = boolv true ∧ σ' = σ := by
  refine k_rxbuf_Buffer_made rfl ?_
  have H := Hp.nil σ
  (refine wX ?_)
  (repeat ((refine zB H b1 rfl ?_); (refine wX ?_)))
  exact aret (VLe.refl _) H.sub ⟨rfl, rfl⟩
theorem buFind (b1 : σ ib = some (.cells (buC im))) (b2 : σ im = some (.map es)) (sn : Int) (he : es.find? (fun e => e.1 == sn) = some (sn, .ptr ip 0)) :
    ACalls Try.prog i_rxbuf_Buffer_find [.ptr ib 0, i64v sn] σ fun v σ' => v = .tup [.ptr ip 0, i64v 0] ∧ σ' = σ := by
  refine k_rxbuf_Buffer_find rfl ?_
  have H := Hp.nil σ
  (refine wX ?_)
  refine acall (buMade b1) ?_
  rintro _ σ_ ⟨rfl, e_⟩
  obtain rfl := e_.symm
  refine ⟨?_, Ext.refl _⟩
  (refine wX ?_)
  (repeat ((refine zB H b1 rfl ?_); (refine wX ?_)))
  refine hlookB H b2 ?_
  rw [he]
  (refine wX ?_)
  skip
  exact aret (VLe.refl _) H.sub ⟨rfl, rfl⟩
theorem buNone (b1 : σ ib = some (.cells (buC im))) (b2 : σ im = some (.map es)) (sn : Int) (he : es.find? (fun e => e.1 == sn) = none) :
    ACalls Try.prog i_rxbuf_Buffer_find [.ptr ib 0, i64v sn] σ fun v σ' => v = .tup [.v (.pointer none), i64v 4] ∧ σ' = σ := by
  refine k_rxbuf_Buffer_find rfl ?_
  have H := Hp.nil σ
  (refine wX ?_)
  refine acall (buMade b1) ?_
  rintro _ σ_ ⟨rfl, e_⟩
  obtain rfl := e_.symm
  refine ⟨?_, Ext.refl _⟩
  (refine wX ?_)
  (repeat ((refine zB H b1 rfl ?_); (refine wX ?_)))
  refine hlookB H b2 ?_
  rw [he]
  (refine wX ?_)
  skip
  exact aret (VLe.refl _) H.sub ⟨rfl, rfl⟩
theorem peWhole (b1 : σ ip = some (.cells (peC v is e ig fi))) (b2 : σ is = some (.cells [spL tk l])) (hl : l.length ≤ 1000000) : ACalls Try.prog i_rxbuf_piece_whole [.ptr ip 0] σ fun v σ' => v = boolv (wholeV l e) ∧ σ' = σ := by
  refine k_rxbuf_piece_whole rfl ?_
  have H := Hp.nil σ
  (refine wX ?_)
  (repeat ((refine zB H b1 rfl ?_); (refine wX ?_)))
  unfold wholeV
  by_cases h : e > 0
  · rw [decide_eq_true h]
    (repeat ((first | refine zY (by omega) ?_ | refine zB H b1 rfl ?_); (refine wX ?_)))
    refine acall (sHas (0, e) b2 hl) ?_
    rintro _ σ_ ⟨rfl, e_⟩
    obtain rfl := e_.symm
    refine ⟨?_, Ext.refl _⟩
    (refine wX ?_)
    exact aret (VLe.refl _) H.sub ⟨by rw [Bool.true_and], rfl⟩
  · rw [decide_eq_false h]
    (repeat ((refine zN (by omega) ?_); (refine wX ?_)))
    exact aret (VLe.refl _) H.sub ⟨rfl, rfl⟩
theorem peTop (b1 : σ ip = some (.cells (peC v is e ig fi))) (b2 : σ is = some (.cells [spL tk l])) (hl : l.length ≤ 1000000) : ACalls Try.prog i_rxbuf_piece_top [.ptr ip 0] σ fun v σ' => v = i64v (topL l) ∧ σ' = σ := by
  refine k_rxbuf_piece_top rfl ?_
  have H := Hp.nil σ
  (refine wX ?_)
  (repeat ((refine zB H b1 rfl ?_); (refine wX ?_)))
  refine acall_less (sSpans b2 hl) ?_
  rintro _ σ2 ⟨u, hu, rfl⟩
  refine ⟨spL .none l, σ, VLe.slice _ _ _, hu.sub, ?_, Ext.refl _⟩
  (refine wX ?_)
  rw [List.length_map]
  unfold topL
  rcases snoc_cases l with rfl | ⟨r, z, rfl⟩
  · (refine wX ?_)
    skip
    exact aret (VLe.refl _) H.sub ⟨rfl, rfl⟩
  · rw [List.getLast?_concat]
    have hl' : (r ++ [z]).length = r.length + 1 := by simp
    have hg : ((r ++ [z]).map spV)[((((r ++ [z]).length : Nat) : Int) - 1).toNat]? = some (spV z) := by
      rw [List.map_append, show ((((r ++ [z]).length : Nat) : Int) - 1).toNat = (r.map spV).length by rw [List.length_map]; omega]; simp
    (repeat ((first | refine zI (by omega) ?_ | refine zN (by omega) ?_ | rw [List.length_map]); (refine wX ?_)))
    refine aget (by omega) hg ?_
    (refine wX ?_)
    (repeat ((refine zR rfl ?_); (refine wX ?_)))
    exact aret (VLe.refl _) H.sub ⟨rfl, rfl⟩
set_option maxRecDepth 20000 in
theorem peFits (b1 : σ ip = some (.cells (peC v is e ig fi))) (b2 : σ is = some (.cells [spL tk l])) (hl : l.length ≤ 1000000) (y : Sp) (ends : Bool) : ACalls Try.prog i_rxbuf_piece_fits [.ptr ip 0, spV y, boolv ends] σ fun v σ' => v = i64v (fitsC l e y ends) ∧ σ' = σ := by
  obtain ⟨ya, yb⟩ := y
  refine k_rxbuf_piece_fits rfl ?_
  have H := Hp.nil σ
  (refine wX ?_)
  refine hnew H rfl ?_
  clear H
  intro i4 τ H
  (refine wX ?_)
  replace H : Hp σ [.o i4 (.cells [i64v ya, i64v yb])] τ := H
  (repeat ((refine zB H b1 rfl ?_); (refine wX ?_)))
  unfold fitsC
  dsimp only
  by_cases h1 : e = -1
  · (repeat ((refine zN (by omega) ?_); (refine wX ?_)))
    cases ends
    · rw [if_neg (by simp; omega)]
      (refine wX ?_)
      (repeat ((first | refine zB H b1 rfl ?_ | (apply zA H; (· repeat first | exact .h | apply AtK.t))); (refine wX ?_)))
      refine acall (sHas (ya, yb) (H.sub _ _ b2) hl) ?_
      rintro _ σ_ ⟨rfl, e_⟩
      obtain rfl := e_.symm
      refine ⟨?_, Ext.refl _⟩
      (refine wX ?_)
      cases hasS (ya, yb) l
      · (refine wX ?_)
        skip
        exact aret (VLe.refl _) H.sub ⟨rfl, rfl⟩
      · (refine wX ?_)
        skip
        exact aret (VLe.refl _) H.sub ⟨rfl, rfl⟩
    · (refine wX ?_)
      (repeat (((apply zL H; (· repeat first | exact .h | apply AtK.t); (· rfl))); (refine wX ?_)))
      (refine wX ?_)
      skip
      refine acall (peTop (H.sub _ _ b1) (H.sub _ _ b2) hl) ?_
      rintro _ σ_ ⟨rfl, e_⟩
      obtain rfl := e_.symm
      refine ⟨?_, Ext.refl _⟩
      (refine wX ?_)
      by_cases h4 : topL l > yb
      · rw [if_pos (.inr ⟨rfl, h4⟩)]
        (repeat ((refine zY (by omega) ?_); (refine wX ?_)))
        exact aret (VLe.refl _) H.sub ⟨rfl, rfl⟩
      · rw [if_neg (by omega)]
        (refine wX ?_)
        (repeat ((first | refine zN (by omega) ?_ | refine zB H b1 rfl ?_ | (apply zA H; (· repeat first | exact .h | apply AtK.t))); (refine wX ?_)))
        refine acall (sHas (ya, yb) (H.sub _ _ b2) hl) ?_
        rintro _ σ_ ⟨rfl, e_⟩
        obtain rfl := e_.symm
        refine ⟨?_, Ext.refl _⟩
        (refine wX ?_)
        cases hasS (ya, yb) l
        · (refine wX ?_)
          skip
          exact aret (VLe.refl _) H.sub ⟨rfl, rfl⟩
        · (refine wX ?_)
          skip
          exact aret (VLe.refl _) H.sub ⟨rfl, rfl⟩
  · (repeat ((first | refine zY (by omega) ?_ | refine zB H b1 rfl ?_ | (apply zL H; (· repeat first | exact .h | apply AtK.t); (· rfl))); (refine wX ?_)))
    by_cases h2 : yb > e
    · rw [if_pos (.inl ⟨h1, .inl h2⟩)]
      (repeat ((refine zY (by omega) ?_); (refine wX ?_)))
      exact aret (VLe.refl _) H.sub ⟨rfl, rfl⟩
    · (refine wX ?_)
      (repeat ((refine zN (by omega) ?_); (refine wX ?_)))
      cases ends
      · rw [if_neg (by simp; omega)]
        (refine wX ?_)
        (repeat ((first | refine zB H b1 rfl ?_ | (apply zA H; (· repeat first | exact .h | apply AtK.t))); (refine wX ?_)))
        refine acall (sHas (ya, yb) (H.sub _ _ b2) hl) ?_
        rintro _ σ_ ⟨rfl, e_⟩
        obtain rfl := e_.symm
        refine ⟨?_, Ext.refl _⟩
        (refine wX ?_)
        cases hasS (ya, yb) l
        · (refine wX ?_)
          skip
          exact aret (VLe.refl _) H.sub ⟨rfl, rfl⟩
        · (refine wX ?_)
          skip
          exact aret (VLe.refl _) H.sub ⟨rfl, rfl⟩
      · (refine wX ?_)
        (repeat ((first | refine zB H b1 rfl ?_ | (apply zL H; (· repeat first | exact .h | apply AtK.t); (· rfl))); (refine wX ?_)))
        by_cases h3 : yb = e
        · (repeat ((first | refine zN (by omega) ?_ | (apply zL H; (· repeat first | exact .h | apply AtK.t); (· rfl))); (refine wX ?_)))
          refine acall (peTop (H.sub _ _ b1) (H.sub _ _ b2) hl) ?_
          rintro _ σ_ ⟨rfl, e_⟩
          obtain rfl := e_.symm
          refine ⟨?_, Ext.refl _⟩
          (refine wX ?_)
          by_cases h4 : topL l > yb
          · rw [if_pos (.inr ⟨rfl, h4⟩)]
            (repeat ((refine zY (by omega) ?_); (refine wX ?_)))
            exact aret (VLe.refl _) H.sub ⟨rfl, rfl⟩
          · rw [if_neg (by omega)]
            (repeat ((first | refine zN (by omega) ?_ | refine zB H b1 rfl ?_ | (apply zA H; (· repeat first | exact .h | apply AtK.t))); (refine wX ?_)))
            refine acall (sHas (ya, yb) (H.sub _ _ b2) hl) ?_
            rintro _ σ_ ⟨rfl, e_⟩
            obtain rfl := e_.symm
            refine ⟨?_, Ext.refl _⟩
            (refine wX ?_)
            cases hasS (ya, yb) l
            · (refine wX ?_)
              skip
              exact aret (VLe.refl _) H.sub ⟨rfl, rfl⟩
            · (refine wX ?_)
              skip
              exact aret (VLe.refl _) H.sub ⟨rfl, rfl⟩
        · rw [if_pos (.inl ⟨h1, .inr ⟨rfl, h3⟩⟩)]
          (repeat ((refine zY (by omega) ?_); (refine wX ?_)))
          exact aret (VLe.refl _) H.sub ⟨rfl, rfl⟩
end
end Go.Proofs.Ytgbpjbpdpgbngaa
/-
  Rows that are stored into, anywhere in a list.
-/
namespace Go.Proofs.Ytgbpjbpdpgbngaa
open Go Go.Am

section ops
variable {σb σ : AHeap} {L : List HE}
theorem row_set (H : Hp σb L σ) {xs : List AVal} {k r q : Nat} {y : AVal} {K : AHeap → Prop} (hk : AtK L k (.o r (.cells xs))) (h : q < xs.length) (hy : y.isCell = true)
    (hK : setLK L k (.o r (.cells (xs.set q y))) fun L' => ∀ τ', Hp σb L' τ' → K τ') : AStore σ r (0 + ((q : Nat) : Int).toNat * 1) [y] K := by
  rw [Int.toNat_natCast, Nat.mul_one, Nat.zero_add]
  refine astore (H.get hk.get) (by show q + 1 ≤ _; omega) (by show (y.isCell && true) = true; rw [hy]; rfl) (l := xs.set q y) ?_ ((setLK_spec hK).2 _ (H.set hk.get _))
  unfold splice
  rw [List.set_eq_take_append_cons_drop, if_pos h, List.append_assoc]; rfl
end ops
end Go.Proofs.Ytgbpjbpdpgbngaa
/-
  What came in parts: bytes are filled in.
-/
namespace Go.Proofs.Ytgbpjbpdpgbngaa
set_option maxRecDepth 20000
open Go Go.Am

/-- A row of bytes that is stored into, or none yet. -/
inductive RB : AVal → List UInt8 → List HE → Prop
  | nil : RB (.slice 1 [] .full) [] []
  | row (r : Nat) (D : List UInt8) : D ≠ [] → RB (.ms r 1 0 D.length) D [.o r (.cells (D.map byteV))]
def BOk (σ : AHeap) (v : AVal) (D : List UInt8) : Prop := (v = .slice 1 [] .full ∧ D = []) ∨ ∃ r, v = .ms r 1 0 D.length ∧ σ r = some (.cells (D.map byteV)) ∧ D ≠ []
theorem RB.dv {σb σ : AHeap} {v : AVal} {D : List UInt8} {E F G : List HE} (h : RB v D E) (H : Hp σb (F ++ (E ++ G)) σ) : BOk σ v D := by
  cases h with
  | nil => exact .inl ⟨rfl, rfl⟩
  | row r D hx => exact .inr ⟨r, rfl, H.ok (.o r (.cells (D.map byteV))) (by simp), hx⟩
theorem RB.isCell {v : AVal} {D : List UInt8} {E : List HE} (h : RB v D E) : v.isCell = true := by cases h <;> rfl
theorem cloneB {σ : AHeap} {v : AVal} {D : List UInt8} (h : BOk σ v D) (hl : D.length ≤ 140737488355328) : ACalls Try.prog i_slices_Clone_byte_byte [v] σ fun v' σ' => ∃ E, RB v' D E ∧ Hp σ E σ' := by
  have H := Hp.nil σ
  rcases h with ⟨rfl, rfl⟩ | ⟨r, rfl, hs, hn⟩
  · refine acall_less (CloneM [] .full σ (by simp)) ?_
    rintro _ σ' (⟨_, rfl, rfl⟩ | ⟨h, _⟩)
    · exact ⟨_, _, VLe.refl _, Sub.refl _, [], .nil, H⟩
    · exact absurd rfl h
  · refine km_slices_Clone_byte_byte rfl ?_
    (refine wX ?_)
    refine ⟨⟨_, hs, by simp, ?_⟩⟩
    rw [List.drop_zero, List.take_of_length_le (by simp)]
    have hm : D.map byteV ≠ [] := by simpa using hn
    refine happnew H hm (by rw [List.length_map]; omega) (bytes_ok D) fun r2 τ H => ?_
    rw [List.length_map]
    rw [bytes_flat] at H
    (refine wX ?_)
    exact aret (VLe.refl _) (Sub.refl _) ⟨_, .row r2 D hn, H⟩
/-- Bytes put where there are none. -/
def fillN (l : List Sp) (f : Nat) (d D : List UInt8) : Nat → List UInt8
  | 0 => D
  | k + 1 => if hasS ((f : Int) + (k : Int), (f : Int) + (k : Int) + 1) l = true then fillN l f d D k else (fillN l f d D k).set (f + k) (d[k]?.getD 0)
theorem fillN_len (l : List Sp) (f : Nat) (d D : List UInt8) : ∀ k, (fillN l f d D k).length = D.length
  | 0 => rfl
  | k + 1 => by
    unfold fillN
    split
    · exact fillN_len l f d D k
    · rw [List.length_set]; exact fillN_len l f d D k
def wideB (D : List UInt8) (to : Nat) : List UInt8 := if D.length < to then D ++ List.replicate (to - D.length) 0 else D
theorem wideB_len (D : List UInt8) (to : Nat) : (wideB D to).length = max D.length to := by
  unfold wideB
  split
  · rw [List.length_append, List.length_replicate]; omega
  · omega
def fillB (l : List Sp) (f : Nat) (d D : List UInt8) : List UInt8 := fillN l f d (wideB D (f + d.length)) d.length
theorem fillB_len (l : List Sp) (f : Nat) (d D : List UInt8) : (fillB l f d D).length = max D.length (f + d.length) := by unfold fillB; rw [fillN_len, wideB_len]

section
variable {σb σ : AHeap} {ip is ig : Nat} {e fi : Int} {l : List Sp} {tk : Tok} {v : AVal} {D : List UInt8} {E G : List HE}
set_option maxHeartbeats 2000000 in
theorem peFill (h : RB v D E) (H : Hp σb (E ++ (.o ip (.cells (peC v is e ig fi)) :: .o is (.cells [spL tk l]) :: G)) σ) (f : Nat) (d : List UInt8) (hd : d ≠ []) (hf : f + d.length ≤ 1000000) (hD : D.length ≤ 1000000) (hl : l.length ≤ 1000000) :
    ACalls Try.prog i_rxbuf_piece_fill [.ptr ip 0, i64v f, sl .none d] σ fun r σ' => r = .tup [] ∧ ∃ v' E', RB v' (fillB l f d D) E' ∧ Hp σb (E' ++ (.o ip (.cells (peC v' is e ig fi)) :: .o is (.cells [spL tk l]) :: G)) σ' := by
  have hdl : d.length ≠ 0 := by simpa using hd
  refine km_rxbuf_piece_fill rfl ?_
  (refine wX ?_)
  (repeat ((first | refine zI (by omega) ?_ | rw [List.length_map]); (refine wX ?_)))
  obtain ⟨D1, hD1⟩ : ∃ D1, D1 = wideB D (f + d.length) := ⟨_, rfl⟩
  have hl1 : D1.length = max D.length (f + d.length) := by rw [hD1]; exact wideB_len _ _
  have hD1n : D1 ≠ [] := fun h => by rw [h] at hl1; simp at hl1; omega
  unfold fillB
  rw [← hD1]
  by_cases hlt : D.length < f + d.length
  case' pos =>
    unfold wideB at hD1
    rw [if_pos hlt] at hD1
    cases h
    case' nil =>
      replace H : Hp σb (.o ip (.cells (peC (.slice 1 [] .full) is e ig fi)) :: .o is (.cells [spL tk l]) :: G) σ := H
      (repeat ((first | refine zI (by omega) ?_ | refine zY (by omega) ?_ | (apply zL H; (· repeat first | exact .h | apply AtK.t); (· rfl))); (refine wX ?_)))
      have e0 : (((f : Nat) : Int) + ((d.length : Nat) : Int) - (([] : List AVal).length : Nat)).toNat = f + d.length - ([] : List UInt8).length := by simp; omega
      rw [e0]
      have e1 : List.replicate (f + d.length - ([] : List UInt8).length) (AVal.v (.int .u8 0)) = D1.map byteV := by rw [hD1, List.nil_append, List.map_replicate]; rfl
      rw [e1]
      refine ⟨by simp; omega, by simp; omega, by simp; omega, .inr (happnew H (by simpa using hD1n) (by rw [List.length_map]; omega) (bytes_ok D1) fun r τ H => ?_)⟩
      rw [bytes_flat] at H
      rw [List.length_map]
      (refine wX ?_)
    case' row r hx =>
      replace H : Hp σb (.o r (.cells (D.map byteV)) :: .o ip (.cells (peC (.ms r 1 0 D.length) is e ig fi)) :: .o is (.cells [spL tk l]) :: G) σ := H
      (repeat ((first | refine zI (by omega) ?_ | refine zY (by omega) ?_ | (apply zL H; (· repeat first | exact .h | apply AtK.t); (· rfl))); (refine wX ?_)))
      have e0 : (((f : Nat) : Int) + ((d.length : Nat) : Int) - (D.length : Nat)).toNat = f + d.length - D.length := by omega
      rw [e0]
      have e1 : List.replicate (f + d.length - D.length) (AVal.v (.int .u8 0)) = (List.replicate (f + d.length - D.length) (0 : UInt8)).map byteV := by rw [List.map_replicate]; rfl
      rw [e1]
      refine ⟨by omega, by omega, by omega, happm H (k := 0) rfl (by simp) (by simp; omega) (bytes_ok _) fun r2 τ H => ?_⟩
      rw [bytes_flat, ← List.map_append, ← hD1] at H
      rw [show D.length + (List.map byteV (List.replicate (f + d.length - D.length) (0 : UInt8))).length = D1.length by rw [hD1]; simp]
      clear e1 e0
      generalize r2 = r at *
      (refine wX ?_)
    all_goals
      apply zS H
      · (repeat first | exact .h | apply AtK.t)
      · rfl
      (conv => whnf)
      clear H
      intro τ H
      (refine wX ?_)
      replace H : Hp σb (.o r (.cells (D1.map byteV)) :: .o ip (.cells (peC (.ms r 1 0 D1.length) is e ig fi)) :: .o is (.cells [spL tk l]) :: G) τ := H
  case' neg =>
    unfold wideB at hD1
    rw [if_neg hlt] at hD1
    subst hD1
    cases h
    case' nil => exact absurd rfl hD1n
    case' row r hx =>
      replace H : Hp σb (.o r (.cells (D1.map byteV)) :: .o ip (.cells (peC (.ms r 1 0 D1.length) is e ig fi)) :: .o is (.cells [spL tk l]) :: G) σ := H
      generalize σ = τ at *
  all_goals
    (repeat ((first | refine zN (by omega) ?_ | (apply zL H; (· repeat first | exact .h | apply AtK.t); (· rfl)) | rw [List.length_map]); (refine wX ?_)))
    refine aloop (α := Nat × AHeap) (fun y => [(s37, i64v y.1)]) (fun y => y.2) (fun y => y.1 ≤ d.length ∧ Hp σb (.o r (.cells ((fillN l f d D1 y.1).map byteV)) :: .o ip (.cells (peC (.ms r 1 0 D1.length) is e ig fi)) :: .o is (.cells [spL tk l]) :: G) y.2) (fun y => d.length - y.1)
      (0, τ) ⟨Nat.zero_le _, H⟩ (Sub.refl _) ?_ ?_
    · (refine wX ?_)
      exact elX
    clear H
    rintro ⟨k, υ⟩ ⟨hk, H⟩
    dsimp only at hk H ⊢
    (refine wX ?_)
    by_cases h : k < d.length
    · (repeat ((refine zY (by omega) ?_); (refine wX ?_)))
      refine aget (by omega) (get_bytes h) ?_
      (refine wX ?_)
      refine acell rfl ?_
      (refine wX ?_)
      (repeat ((first | refine zI (by omega) ?_ | (apply zL H; (· repeat first | exact .h | apply AtK.t); (· rfl))); (refine wX ?_)))
      refine acall (sHas ((f : Int) + (k : Int), (f : Int) + (k : Int) + 1) (H.get (k := 2) rfl) hl) ?_
      rintro _ σ_ ⟨rfl, e_⟩
      obtain rfl := e_.symm
      refine ⟨?_, Ext.refl _⟩
      (refine wX ?_)
      have hs : fillN l f d D1 (k + 1) = if hasS ((f : Int) + (k : Int), (f : Int) + (k : Int) + 1) l = true then fillN l f d D1 k else (fillN l f d D1 k).set (f + k) (d[k]?.getD 0) := rfl
      rcases (show hasS ((f : Int) + (k : Int), (f : Int) + (k : Int) + 1) l = false ∨ hasS ((f : Int) + (k : Int), (f : Int) + (k : Int) + 1) l = true by cases hasS ((f : Int) + (k : Int), (f : Int) + (k : Int) + 1) l <;> simp) with hh | hh
      · rw [hh, if_neg (by simp)] at hs
        rw [hh]
        (refine wX ?_)
        (repeat ((first | refine zI (by omega) ?_ | refine zX (by omega) (by omega) ?_ | (apply zL H; (· repeat first | exact .h | apply AtK.t); (· rfl))); (refine wX ?_)))
        rw [List.getElem?_eq_getElem h, Option.getD_some] at hs
        have e2 : 0 + ((f : Int) + (k : Int)).toNat * 1 = 0 + ((f + k : Nat) : Int).toNat * 1 := by omega
        rw [e2]
        refine row_set H .h (by rw [List.length_map, fillN_len]; omega) rfl ?_
        (conv => whnf)
        clear H
        intro υ H
        rw [← List.map_set, ← hs] at H
        (refine wX ?_)
        (repeat ((refine zI (by omega) ?_); (refine wX ?_)))
        refine ⟨(k + 1, υ), ⟨h, H⟩, by dsimp only; omega, Sub.refl _, ?_⟩
        (refine wX ?_)
        exact elX
      · rw [hh, if_pos rfl] at hs
        rw [hh]
        (refine wX ?_)
        (repeat ((refine zI (by omega) ?_); (refine wX ?_)))
        refine ⟨(k + 1, υ), ⟨h, by rw [hs]; exact H⟩, by dsimp only; omega, Sub.refl _, ?_⟩
        (refine wX ?_)
        exact elX
    · obtain rfl : k = d.length := by omega
      (repeat ((refine zN (by omega) ?_); (refine wX ?_)))
      refine aret (VLe.refl _) (Sub.refl _) ⟨rfl, .ms r 1 0 D1.length, [.o r (.cells ((fillN l f d D1 d.length).map byteV))], ?_, H⟩
      have := RB.row r (fillN l f d D1 d.length) (fun h => by have := fillN_len l f d D1 d.length; rw [h] at this; simp at this; omega)
      rw [fillN_len] at this
      exact this
end
end Go.Proofs.Ytgbpjbpdpgbngaa
/-
  What came in parts: may a packet come; where fields begin and end is noted.
-/
namespace Go.Proofs.Ytgbpjbpdpgbngaa
set_option maxRecDepth 20000
open Go Go.Am

set_option maxHeartbeats 2000000 in
theorem buRight (p : Pk) (σ : AHeap) (hl : p.fs.length ≤ 1000) (ht : total p.fs ≤ 140737488355328) : ACalls Try.prog i_rxbuf_right [amV p] σ fun v σ' => v = boolv (rightB p) ∧ σ' = σ := by
  refine k_rxbuf_right rfl ?_
  have H := Hp.nil σ
  (refine wX ?_)
  refine hnew H rfl ?_
  clear H
  intro i1 τ H
  (refine wX ?_)
  (repeat ((first | (apply zL H; (· repeat first | exact .h | apply AtK.t); (· rfl)) | rw [List.length_map]); (refine wX ?_)))
  unfold rightB
  have no : ∀ {x : Bool}, x = true → (!x && (decide (0 ≤ p.off) && decide (p.off ≤ 4000) && (p.part || decide (p.off = 0)) && decide ((total p.fs : Int) ≤ 4000 - p.off))) = false := fun h => by rw [h]; rfl
  by_cases a1 : p.fs.length < 1
  · rw [no (by rw [decide_eq_true a1]; rfl)]
    (repeat ((refine zY (by omega) ?_); (refine wX ?_)))
    exact aret (VLe.refl _) H.sub ⟨rfl, rfl⟩
  (repeat ((refine zN (by omega) ?_); (refine wX ?_)))
  by_cases a2 : p.fs.length > 24
  · rw [no (by rw [decide_eq_true a2]; simp)]
    (repeat ((refine zY (by omega) ?_); (refine wX ?_)))
    exact aret (VLe.refl _) H.sub ⟨rfl, rfl⟩
  (repeat ((first | refine zN (by omega) ?_ | (apply zL H; (· repeat first | exact .h | apply AtK.t); (· rfl))); (refine wX ?_)))
  refine acall (buContains p.fs .none τ (by omega)) ?_
  rintro _ σ_ ⟨rfl, e_⟩
  obtain rfl := e_.symm
  refine ⟨?_, Ext.refl _⟩
  (refine wX ?_)
  rcases (show hollowB p.fs = false ∨ hollowB p.fs = true by cases hollowB p.fs <;> simp) with a3 | a3
  rotate_left
  · rw [no (by rw [a3]; simp), a3]
    (refine wX ?_)
    skip
    exact aret (VLe.refl _) H.sub ⟨rfl, rfl⟩
  rw [a3]
  (refine wX ?_)
  (repeat (((apply zL H; (· repeat first | exact .h | apply AtK.t); (· rfl))); (refine wX ?_)))
  by_cases a4 : p.fi < 0
  · rw [no (by rw [decide_eq_true a4]; simp)]
    (repeat ((refine zY (by omega) ?_); (refine wX ?_)))
    exact aret (VLe.refl _) H.sub ⟨rfl, rfl⟩
  (repeat ((first | refine zN (by omega) ?_ | (apply zL H; (· repeat first | exact .h | apply AtK.t); (· rfl))); (refine wX ?_)))
  by_cases a5 : p.fi > 3
  · rw [no (by rw [decide_eq_true a5]; simp)]
    (repeat ((refine zY (by omega) ?_); (refine wX ?_)))
    exact aret (VLe.refl _) H.sub ⟨rfl, rfl⟩
  (repeat ((first | refine zN (by omega) ?_ | (apply zL H; (· repeat first | exact .h | apply AtK.t); (· rfl))); (refine wX ?_)))
  rw [decide_eq_false a1, decide_eq_false a2, decide_eq_false a4, decide_eq_false a5, show (!(false || false || false || false || false)) = true from rfl, Bool.true_and]
  by_cases q1 : 0 ≤ p.off
  case neg =>
    rw [decide_eq_false q1]
    (repeat ((refine zN (by omega) ?_); (refine wX ?_)))
    exact aret (VLe.refl _) H.sub ⟨rfl, rfl⟩
  rw [decide_eq_true q1]
  (repeat ((first | refine zY (by omega) ?_ | (apply zL H; (· repeat first | exact .h | apply AtK.t); (· rfl))); (refine wX ?_)))
  by_cases q2 : p.off ≤ 4000
  case neg =>
    rw [decide_eq_false q2]
    (repeat ((refine zN (by omega) ?_); (refine wX ?_)))
    exact aret (VLe.refl _) H.sub ⟨rfl, rfl⟩
  rw [decide_eq_true q2]
  (repeat ((first | refine zY (by omega) ?_ | (apply zL H; (· repeat first | exact .h | apply AtK.t); (· rfl))); (refine wX ?_)))
  rcases (show p.part = false ∨ p.part = true by cases p.part <;> simp) with q3 | q3
  · refine abr_false q3 ?_
    rw [q3]
    (refine wX ?_)
    (repeat (((apply zL H; (· repeat first | exact .h | apply AtK.t); (· rfl))); (refine wX ?_)))
    by_cases q4 : p.off = 0
    case neg =>
      rw [decide_eq_false q4]
      (refine wX ?_)
      skip
      exact aret (VLe.refl _) H.sub ⟨rfl, rfl⟩
    rw [decide_eq_true q4]
    (refine wX ?_)
    (repeat ((first | refine zI (by omega) ?_ | (apply zL H; (· repeat first | exact .h | apply AtK.t); (· rfl)) | (apply zA H; (· repeat first | exact .h | apply AtK.t))); (refine wX ?_)))
    refine acall (aData p τ hl ht) ?_
    rintro _ σ_ ⟨rfl, e_⟩
    obtain rfl := e_.symm
    refine ⟨?_, Ext.refl _⟩
    (refine wX ?_)
    (repeat ((rw [List.length_map]); (refine wX ?_)))
    exact aret (VLe.refl _) H.sub ⟨by unfold total; simp, rfl⟩
  · refine abr_true q3 ?_
    rw [q3]
    (refine wX ?_)
    (repeat ((first | refine zI (by omega) ?_ | (apply zL H; (· repeat first | exact .h | apply AtK.t); (· rfl)) | (apply zA H; (· repeat first | exact .h | apply AtK.t))); (refine wX ?_)))
    refine acall (aData p τ hl ht) ?_
    rintro _ σ_ ⟨rfl, e_⟩
    obtain rfl := e_.symm
    refine ⟨?_, Ext.refl _⟩
    (refine wX ?_)
    (repeat ((rw [List.length_map]); (refine wX ?_)))
    exact aret (VLe.refl _) H.sub ⟨by unfold total; simp, rfl⟩

/-- Where fields begin and end. -/
abbrev trueV : AVal := boolv true
def note1 (p : Pk) (em : List (Int × AVal)) : List (Int × AVal) := if p.off = 0 then em else if bitsOp .and .i64 p.fi 2 = 0 then mapSet em p.off trueV else em
def noteN (p : Pk) (em : List (Int × AVal)) : Nat → List (Int × AVal)
  | 0 => em
  | k + 1 => if k > 0 then mapSet (noteN p em k) (p.off + (total (p.fs.take k) : Int)) trueV else noteN p em k
def noteM (p : Pk) (ends : Bool) (em : List (Int × AVal)) : List (Int × AVal) :=
  if ends = true then noteN p (note1 p em) p.fs.length else if bitsOp .and .i64 p.fi 1 = 0 then mapSet (noteN p (note1 p em) p.fs.length) (p.off + (total p.fs : Int)) trueV else noteN p (note1 p em) p.fs.length
def noteF1 (p : Pk) (fi : Int) : Int := if p.off = 0 then bitsOp .or .i64 fi (bitsOp .and .i64 p.fi 2) else fi
def noteF (p : Pk) (ends : Bool) (fi : Int) : Int := if ends = true then bitsOp .or .i64 (noteF1 p fi) (bitsOp .and .i64 p.fi 1) else noteF1 p fi
def noteE (p : Pk) (ends : Bool) (e : Int) : Int := if ends = true then p.off + (total p.fs : Int) else e

section
variable {σb σ : AHeap} {ip is ig : Nat} {e fi : Int} {l : List Sp} {tk : Tok} {v : AVal} {em : List (Int × AVal)} {G : List HE}
set_option maxHeartbeats 2000000 in
theorem peNote (H : Hp σb (.o ip (.cells (peC v is e ig fi)) :: .o ig (.map em) :: G) σ) (hv : v.isCell = true) (p : Pk) (ends : Bool) (ho : 0 ≤ p.off ∧ p.off ≤ 1000000) (hn : p.fs.length ≤ 1000) (ht : total p.fs ≤ 1000000) :
    ACalls Try.prog i_rxbuf_piece_note [.ptr ip 0, amV p, boolv ends] σ fun r σ' => r = .tup [] ∧ Hp σb (.o ip (.cells (peC v is (noteE p ends e) ig (noteF p ends fi))) :: .o ig (.map (noteM p ends em)) :: G) σ' := by
  refine k_rxbuf_piece_note rfl ?_
  (refine wX ?_)
  refine hnew H rfl ?_
  clear H
  intro i4 τ H
  (refine wX ?_)
  (repeat (((apply zL H; (· repeat first | exact .h | apply AtK.t); (· rfl))); (refine wX ?_)))
  unfold noteE noteF noteM
  obtain ⟨m1, hm1⟩ : ∃ m1, m1 = note1 p em := ⟨_, rfl⟩
  rw [← hm1]
  have hat : ∀ k, total (p.fs.take k) ≤ 1000000 := fun k => Nat.le_trans (total_take_le _ _) ht
  by_cases h0 : p.off = 0
  case' pos =>
    have e1 : m1 = em := by rw [hm1]; unfold note1; rw [if_pos h0]
    have e2 : noteF1 p fi = bitsOp .or .i64 fi (bitsOp .and .i64 p.fi 2) := by unfold noteF1; rw [if_pos h0]
    rw [e2]
    (repeat ((first | refine zY (by omega) ?_ | (apply zL H; (· repeat first | exact .h | apply AtK.t); (· rfl))); (refine wX ?_)))
    refine abits_eq rfl ?_
    (refine wX ?_)
    skip
    refine abits_eq rfl ?_
    (refine wX ?_)
    (repeat ((first | (apply zL H; (· repeat first | exact .h | apply AtK.t); (· rfl)) | (apply zS H; (· repeat first | exact .h | apply AtK.t); (· rfl); (conv => whnf); clear H; intro τ H) | rw [List.length_map]); (refine wX ?_)))
    rw [← e1] at H
    clear e1 e2
    generalize bitsOp .or .i64 fi (bitsOp .and .i64 p.fi 2) = fi1 at *
  case' neg =>
    have e2 : noteF1 p fi = fi := by unfold noteF1; rw [if_neg h0]
    rw [e2]
    (repeat ((first | refine zN (by omega) ?_ | (apply zL H; (· repeat first | exact .h | apply AtK.t); (· rfl))); (refine wX ?_)))
    refine abits_eq rfl ?_
    (refine wX ?_)
    skip
    by_cases hb : bitsOp .and .i64 p.fi 2 = 0
    case' pos =>
      have e1 : m1 = mapSet em p.off trueV := by rw [hm1]; unfold note1; rw [if_neg h0, if_pos hb]
      (repeat ((first | refine zY (by omega) ?_ | (apply zL H; (· repeat first | exact .h | apply AtK.t); (· rfl))); (refine wX ?_)))
      apply zMs H
      · (repeat first | exact .h | apply AtK.t)
      · rfl
      (conv => whnf)
      clear H
      intro τ H
      (refine wX ?_)
      rw [← e1] at H
      clear e1 e2
      generalize fi = fi1 at *
    case' neg =>
      have e1 : m1 = em := by rw [hm1]; unfold note1; rw [if_neg h0, if_neg hb]
      (repeat ((first | refine zN (by omega) ?_ | (apply zL H; (· repeat first | exact .h | apply AtK.t); (· rfl)) | rw [List.length_map]); (refine wX ?_)))
      rw [← e1] at H
      clear e1 e2
      generalize fi = fi1 at *
  all_goals
    (repeat ((first | (apply zL H; (· repeat first | exact .h | apply AtK.t); (· rfl)) | rw [List.length_map]); (refine wX ?_)))
    refine aloop (α := Nat × AHeap) (fun y => [(s35, i64v y.1), (s6, i64v (p.off + (total (p.fs.take y.1) : Int)))]) (fun y => y.2) (fun y => y.1 ≤ p.fs.length ∧ Hp σb (.o i4 (.cells (amC p)) :: .o ip (.cells (peC v is e ig fi1)) :: .o ig (.map (noteN p m1 y.1)) :: G) y.2) (fun y => p.fs.length - y.1)
      (0, τ) ⟨Nat.zero_le _, H⟩ (Sub.refl _) ?_ ?_
    · (refine wX ?_)
      rw [show p.off + (total (p.fs.take 0) : Int) = p.off by rw [List.take_zero]; show p.off + ((0 : Nat) : Int) = _; omega]
      exact elX
    clear H
    rintro ⟨k, υ⟩ ⟨hk, H⟩
    dsimp only at hk H ⊢
    have hak := hat k
    (refine wX ?_)
    by_cases h : k < p.fs.length
    · (repeat ((refine zY (by omega) ?_); (refine wX ?_)))
      refine aget (by omega) (get_lists h) ?_
      (refine wX ?_)
      refine acell rfl ?_
      (refine wX ?_)
      skip
      have hs : noteN p m1 (k + 1) = if k > 0 then mapSet (noteN p m1 k) (p.off + (total (p.fs.take k) : Int)) trueV else noteN p m1 k := rfl
      have hal := hat (k + 1)
      have hts := total_take_succ p.fs k h
      by_cases h0 : k > 0
      case' pos =>
        rw [if_pos h0] at hs
        (repeat ((first | refine zY (by omega) ?_ | (apply zL H; (· repeat first | exact .h | apply AtK.t); (· rfl))); (refine wX ?_)))
        apply zMs H
        · (repeat first | exact .h | apply AtK.t)
        · rfl
        (conv => whnf)
        clear H
        intro τ H
        (refine wX ?_)
        rw [← hs] at H
      case' neg =>
        rw [if_neg h0] at hs
        rw [← hs] at H
      all_goals
        (repeat ((first | refine zI (by omega) ?_ | refine zN (by omega) ?_ | rw [List.length_map]); (refine wX ?_)))
        rw [show p.off + (total (p.fs.take k) : Int) + (p.fs[k].length : Int) = p.off + (total (p.fs.take (k + 1)) : Int) by omega]
        first
          | (refine ⟨(k + 1, υ), ⟨h, H⟩, by dsimp only; omega, Sub.refl _, ?_⟩; (refine wX ?_); exact elX)
          | (refine ⟨(k + 1, τ), ⟨h, H⟩, by dsimp only; omega, Sub.refl _, ?_⟩; (refine wX ?_); exact elX)
    · obtain rfl : k = p.fs.length := by omega
      rw [List.take_length]
      rw [List.take_length] at hak
      (repeat ((refine zN (by omega) ?_); (refine wX ?_)))
      cases ends
      · (refine wX ?_)
        (repeat (((apply zL H; (· repeat first | exact .h | apply AtK.t); (· rfl))); (refine wX ?_)))
        refine abits_eq rfl ?_
        (refine wX ?_)
        rw [if_neg (by simp), if_neg (by simp), if_neg (by simp)]
        by_cases hb : bitsOp .and .i64 p.fi 1 = 0
        · rw [if_pos hb]
          (repeat ((first | refine zY (by omega) ?_ | (apply zL H; (· repeat first | exact .h | apply AtK.t); (· rfl))); (refine wX ?_)))
          apply zMs H
          · (repeat first | exact .h | apply AtK.t)
          · rfl
          (conv => whnf)
          clear H
          intro τ H
          (refine wX ?_)
          exact aret (VLe.refl _) (Sub.refl _) ⟨rfl, H.tail⟩
        · rw [if_neg hb]
          (repeat ((refine zN (by omega) ?_); (refine wX ?_)))
          exact aret (VLe.refl _) (Sub.refl _) ⟨rfl, H.tail⟩
      · (refine wX ?_)
        (repeat ((first | (apply zL H; (· repeat first | exact .h | apply AtK.t); (· rfl)) | (apply zS H; (· repeat first | exact .h | apply AtK.t); (· rfl); (conv => whnf); clear H; intro τ H)); (refine wX ?_)))
        refine abits_eq rfl ?_
        (refine wX ?_)
        skip
        refine abits_eq rfl ?_
        (refine wX ?_)
        (repeat (((apply zS H; (· repeat first | exact .h | apply AtK.t); (· rfl); (conv => whnf); clear H; intro τ H)); (refine wX ?_)))
        exact aret (VLe.refl _) (Sub.refl _) ⟨rfl, H.tail⟩
end
end Go.Proofs.Ytgbpjbpdpgbngaa
/-
  What came in parts: a packet that comes.
-/
namespace Go.Proofs.Ytgbpjbpdpgbngaa
set_option maxRecDepth 20000
open Go Go.Am

theorem Hp.mid {σb σ : AHeap} {A B C : List HE} (H : Hp σb (A ++ (B ++ C)) σ) : Hp σb (B ++ (A ++ C)) σ :=
  H.perm (by rw [← List.append_assoc, ← List.append_assoc]; exact List.perm_append_comm.append_right _)
theorem Hp.mid2 {σb σ : AHeap} {A B C D : List HE} (H : Hp σb (A ++ (B ++ (C ++ D))) σ) : Hp σb (A ++ (C ++ (B ++ D))) σ :=
  H.perm (List.Perm.append_left A (by rw [← List.append_assoc, ← List.append_assoc]; exact List.perm_append_comm.append_right _))
theorem Hp.rest {σb σ : AHeap} {A L : List HE} (H : Hp σb (A ++ L) σ) : Hp σb L σ := (H.perm List.perm_append_comm).left
theorem RB.cells1 {v : AVal} {D : List UInt8} {E : List HE} (h : RB v D E) : v.cells = [v] := by cases h <;> rfl
theorem mapSet_same : ∀ {es : List (Int × AVal)} {n : Int} {x : AVal}, es.find? (fun e => e.1 == n) = some (n, x) → mapSet es n x = es
  | [], _, _, h => by simp at h
  | (m, y) :: r, n, x, h => by
    rw [List.find?_cons] at h
    by_cases hm : m = n
    · subst hm
      simp at h
      subst h
      simp [mapSet]
    · have hb : (m == n) = false := by simp [hm]
      dsimp only at h
      rw [hb] at h
      simp [mapSet, hm, mapSet_same (es := r) h]
theorem mapSet_new {es : List (Int × AVal)} {n : Int} {x : AVal} (h : es.find? (fun e => e.1 == n) = none) : mapSet es n x = es ++ [(n, x)] := by
  induction es with
  | nil => rfl
  | cons a r ih =>
    rw [List.find?_cons] at h
    obtain ⟨m, y⟩ := a
    by_cases hm : m = n
    · subst hm; simp at h
    · have hb : (m == n) = false := by simp [hm]
      dsimp only at h
      rw [hb] at h
      simp [mapSet, hm, ih h]
def endsB (p : Pk) : Bool := !p.part || p.last
/-- A packet's bytes, as a span. -/
def spanP (p : Pk) : Sp := (p.off, p.off + (total p.fs : Int))
/-- What Put says, of what is there of a piece. -/
def putK (p : Pk) (l : List Sp) (e : Int) : Int :=
  if rightB p = false then 1 else if fitsC l e (spanP p) (endsB p) ≠ 0 then fitsC l e (spanP p) (endsB p) else addC (spanP p) l
theorem right_ok {p : Pk} (h : rightB p = true) : 1 ≤ p.fs.length ∧ p.fs.length ≤ 24 ∧ (∀ f ∈ p.fs, f ≠ []) ∧ 0 ≤ p.fi ∧ p.fi ≤ 3 ∧ 0 ≤ p.off ∧ p.off ≤ 4000 ∧ (p.part = true ∨ p.off = 0) ∧ p.off + (total p.fs : Int) ≤ 4000 := by
  unfold rightB at h
  simp only [Bool.and_eq_true, Bool.not_eq_true', Bool.or_eq_false_iff, decide_eq_false_iff_not, decide_eq_true_eq, Bool.or_eq_true] at h
  obtain ⟨⟨⟨⟨⟨h1, h2⟩, h3⟩, h4⟩, h5⟩, ⟨⟨h6, h7⟩, h8⟩, h9⟩ := h
  refine ⟨by omega, by omega, fun f hf e => ?_, by omega, by omega, h6, h7, h8, by omega⟩
  have : hollowB p.fs = true := List.any_eq_true.2 ⟨f, hf, decide_eq_true e⟩
  rw [this] at h3; cases h3
theorem right_pos {p : Pk} (h : rightB p = true) : 1 ≤ total p.fs := by
  obtain ⟨h1, _, h3, _⟩ := right_ok h
  have h4 := total_get (l := p.fs) (i := 0) (by omega)
  have h5 : p.fs[0].length ≠ 0 := fun e => h3 _ (List.getElem_mem (by omega)) (List.length_eq_zero_iff.1 e)
  omega

section
variable {σb σ : AHeap} {ib im ip is ig : Nat} {e fi : Int} {l : List Sp} {tk : Tok} {v : AVal} {D : List UInt8} {em es : List (Int × AVal)} {E G : List HE}
theorem peFillA (h : RB v D E) (H : Hp σb (.o ip (.cells (peC v is e ig fi)) :: .o is (.cells [spL tk l]) :: (E ++ G)) σ) (f : Nat) (off : Int) (ho : off = f) (d : List UInt8) (hd : d ≠ []) (hf : f + d.length ≤ 1000000) (hD : D.length ≤ 1000000) (hl : l.length ≤ 1000000) :
    ACalls Try.prog i_rxbuf_piece_fill [.ptr ip 0, i64v off, sl .none d] σ fun r σ' => r = .tup [] ∧ ∃ v' E', RB v' (fillB l f d D) E' ∧ Hp σb (.o ip (.cells (peC v' is e ig fi)) :: .o is (.cells [spL tk l]) :: (E' ++ G)) σ' := by
  subst ho
  refine acall_less (peFill h (Hp.mid (A := [.o ip (.cells (peC v is e ig fi)), .o is (.cells [spL tk l])]) H) f d hd hf hD hl) ?_
  rintro _ σ' ⟨rfl, v', E', h', H'⟩
  exact ⟨_, _, VLe.refl _, Sub.refl _, rfl, v', E', h', Hp.mid (B := [.o ip (.cells (peC v' is e ig fi)), .o is (.cells [spL tk l])]) H'⟩

set_option maxHeartbeats 8000000 in
theorem buPutOld (h : RB v D E) (H : Hp σb (.o ip (.cells (peC v is e ig fi)) :: .o is (.cells [spL tk l]) :: .o ig (.map em) :: .o ib (.cells (buC im)) :: .o im (.map es) :: (E ++ G)) σ) (p : Pk) (he : es.find? (fun e => e.1 == p.sn) = some (p.sn, .ptr ip 0)) (hs : SOk l)
    (hD : D.length ≤ 1000000) (hl : p.fs.length ≤ 1000) (ht : total p.fs ≤ 1000000) :
    ACalls Try.prog i_rxbuf_Buffer_Put [.ptr ib 0, amV p] σ fun r σ' => r = i64v (putK p l e) ∧
      ((putK p l e ≠ 0 ∧ ∃ u, Hp σb (.o ip (.cells (peC v is e ig fi)) :: .o is (.cells [spL u l]) :: .o ig (.map em) :: .o ib (.cells (buC im)) :: .o im (.map es) :: (E ++ G)) σ') ∨
       (putK p l e = 0 ∧ ∃ v2 E2 u, RB v2 (fillB l p.off.toNat p.fs.flatten D) E2 ∧ Hp σb (.o ip (.cells (peC v2 is (noteE p (endsB p) e) ig (noteF p (endsB p) fi))) :: .o is (.cells [spL u (addS (spanP p) l)]) :: .o ig (.map (noteM p (endsB p) em)) :: .o ib (.cells (buC im)) :: .o im (.map es) :: (E2 ++ G)) σ')) := by
  refine k_rxbuf_Buffer_Put rfl ?_
  (refine wX ?_)
  refine hnew H rfl ?_
  clear H
  intro i3 τ H
  (refine wX ?_)
  refine acall (buMade (H.get (k := 4) rfl)) ?_
  rintro _ σ_ ⟨rfl, e_⟩
  obtain rfl := e_.symm
  refine ⟨?_, Ext.refl _⟩
  (refine wX ?_)
  (repeat (((apply zA H; (· repeat first | exact .h | apply AtK.t))); (refine wX ?_)))
  refine acall (buRight p τ hl (by omega)) ?_
  rintro _ σ_ ⟨rfl, e_⟩
  obtain rfl := e_.symm
  refine ⟨?_, Ext.refl _⟩
  (refine wX ?_)
  rcases (show rightB p = false ∨ rightB p = true by cases rightB p <;> simp) with hr | hr
  · have hk : putK p l e = 1 := by unfold putK; rw [if_pos hr]
    rw [hr]
    (refine wX ?_)
    skip
    exact aret (VLe.refl _) (Sub.refl _) ⟨by rw [hk], .inl ⟨by rw [hk]; decide, ⟨tk, H.tail⟩⟩⟩
  rw [hr]
  obtain ⟨g1, g2, g3, g4, g5, g6, g7, g8, g9⟩ := right_ok hr
  have gp := right_pos hr
  have hdn : p.fs.flatten ≠ [] := fun h => by have : total p.fs = 0 := by unfold total; rw [h]; rfl
                                              omega
  have htl : p.fs.flatten.length = total p.fs := rfl
  (refine wX ?_)
  (repeat (((apply zA H; (· repeat first | exact .h | apply AtK.t))); (refine wX ?_)))
  refine acall (aData p τ hl (by omega)) ?_
  rintro _ σ_ ⟨rfl, e_⟩
  obtain rfl := e_.symm
  refine ⟨?_, Ext.refl _⟩
  (refine wX ?_)
  (repeat ((first | refine zI (by omega) ?_ | (apply zL H; (· repeat first | exact .h | apply AtK.t); (· rfl)) | rw [List.length_map]); (refine wX ?_)))
  refine hnew H rfl ?_
  clear H
  intro i6 τ H
  (refine wX ?_)
  (repeat ((first | (apply zL H; (· repeat first | exact .h | apply AtK.t); (· rfl)) | (apply zS H; (· repeat first | exact .h | apply AtK.t); (· rfl); (conv => whnf); clear H; intro τ H)); (refine wX ?_)))
  rcases (show p.part = false ∨ p.part = true by cases p.part <;> simp) with hp | hp
  · have hen : endsB p = true := by unfold endsB; rw [hp]; rfl
    refine abr_true (show (!p.part) = true by rw [hp]; rfl) ?_
    (refine wX ?_)
    (repeat (((apply zL H; (· repeat first | exact .h | apply AtK.t); (· rfl))); (refine wX ?_)))
    refine hlook H (k := 6) rfl ?_
    rw [he, Option.map_some, Option.getD_some]
    (refine wX ?_)
    (repeat (((apply zA H; (· repeat first | exact .h | apply AtK.t))); (refine wX ?_)))
    replace H := Hp.mid (A := [.o i6 (.cells [i64v p.off, i64v (p.off + (total p.fs : Int))]), .o i3 (.cells (amC p))]) (B := [.o ip (.cells (peC v is e ig fi)), .o is (.cells [spL tk l]), .o ig (.map em)]) (C := .o ib (.cells (buC im)) :: .o im (.map es) :: (E ++ G)) H
    replace H : Hp σb (.o ip (.cells (peC v is e ig fi)) :: .o is (.cells [spL tk l]) :: .o ig (.map em) :: .o i6 (.cells [i64v p.off, i64v (p.off + (total p.fs : Int))]) :: .o i3 (.cells (amC p)) :: .o ib (.cells (buC im)) :: .o im (.map es) :: (E ++ G)) τ := H
    refine acall (peFits (H.get (k := 0) rfl) (H.get (k := 1) rfl) (by have := hs.k; omega) (spanP p) true) ?_
    rintro _ σ_ ⟨rfl, e_⟩
    obtain rfl := e_.symm
    refine ⟨?_, Ext.refl _⟩
    (refine wX ?_)
    have hk : putK p l e = if fitsC l e (spanP p) true ≠ 0 then fitsC l e (spanP p) true else addC (spanP p) l := by unfold putK; rw [if_neg (by rw [hr]; simp), hen]
    by_cases hc : fitsC l e (spanP p) true = 0
    case neg =>
      rw [if_pos hc] at hk
      (repeat ((refine zY (by omega) ?_); (refine wX ?_)))
      exact aret (VLe.refl _) (Sub.refl _) ⟨by rw [hk], .inl ⟨by rw [hk]; exact hc, ⟨tk, Hp.rest (A := [.o i6 (.cells [i64v p.off, i64v (p.off + (total p.fs : Int))]), .o i3 (.cells (amC p))]) (Hp.mid (A := [.o ip (.cells (peC v is e ig fi)), .o is (.cells [spL tk l]), .o ig (.map em)]) (B := [.o i6 (.cells [i64v p.off, i64v (p.off + (total p.fs : Int))]), .o i3 (.cells (amC p))]) (C := .o ib (.cells (buC im)) :: .o im (.map es) :: (E ++ G)) H)⟩⟩⟩
    rw [if_neg (by rw [hc]; simp)] at hk
    rw [hc]
    (refine wX ?_)
    (repeat (((apply zL H; (· repeat first | exact .h | apply AtK.t); (· rfl))); (refine wX ?_)))
    refine acall (cloneB (RB.dv (F := [.o ip (.cells (peC v is e ig fi)), .o is (.cells [spL tk l]), .o ig (.map em), .o i6 (.cells [i64v p.off, i64v (p.off + (total p.fs : Int))]), .o i3 (.cells (amC p)), .o ib (.cells (buC im)), .o im (.map es)]) h H) (by omega)) ?_
    rintro v1 υ ⟨E1, h1, N⟩
    refine ⟨?_, N.ext⟩
    replace H := Hp.mid (A := E1) (B := [.o ip (.cells (peC v is e ig fi)), .o is (.cells [spL tk l]), .o ig (.map em), .o i6 (.cells [i64v p.off, i64v (p.off + (total p.fs : Int))]), .o i3 (.cells (amC p)), .o ib (.cells (buC im)), .o im (.map es)]) (C := E ++ G) (H.join N)
    replace H : Hp σb (.o ip (.cells (peC v is e ig fi)) :: .o is (.cells [spL tk l]) :: .o ig (.map em) :: .o i6 (.cells [i64v p.off, i64v (p.off + (total p.fs : Int))]) :: .o i3 (.cells (amC p)) :: .o ib (.cells (buC im)) :: .o im (.map es) :: (E1 ++ (E ++ G))) υ := H
    clear N
    (refine wX ?_)
    skip
    rw [h1.cells1]
    (refine wX ?_)
    apply zS H
    · exact .h
    · show (v1.isCell && true) = true
      rw [h1.isCell]; rfl
    (conv => whnf)
    clear H
    intro τ H
    (refine wX ?_)
    (repeat (((apply zL H; (· repeat first | exact .h | apply AtK.t); (· rfl))); (refine wX ?_)))
    replace H : Hp σb (.o ip (.cells (peC v1 is e ig fi)) :: .o is (.cells [spL tk l]) :: (E1 ++ ([.o ig (.map em), .o i6 (.cells [i64v p.off, i64v (p.off + (total p.fs : Int))]), .o i3 (.cells (amC p)), .o ib (.cells (buC im)), .o im (.map es)] ++ (E ++ G)))) τ :=
      Hp.mid (B := [.o ip (.cells (peC v1 is e ig fi)), .o is (.cells [spL tk l])]) (Hp.mid (A := [.o ip (.cells (peC v1 is e ig fi)), .o is (.cells [spL tk l]), .o ig (.map em), .o i6 (.cells [i64v p.off, i64v (p.off + (total p.fs : Int))]), .o i3 (.cells (amC p)), .o ib (.cells (buC im)), .o im (.map es)]) (B := E1) (C := E ++ G) H)
    refine acall (peFillA h1 H p.off.toNat p.off (by omega) p.fs.flatten hdn (by show p.off.toNat + p.fs.flatten.length ≤ _; omega) hD (by have := hs.k; omega)) ?_
    clear H h1
    rintro _ τ ⟨rfl, v2, E2, h2, H⟩
    replace H : Hp σb (.o ip (.cells (peC v2 is e ig fi)) :: .o is (.cells [spL tk l]) :: .o ig (.map em) :: .o i6 (.cells [i64v p.off, i64v (p.off + (total p.fs : Int))]) :: .o i3 (.cells (amC p)) :: .o ib (.cells (buC im)) :: .o im (.map es) :: (E2 ++ (E ++ G))) τ := Hp.mid2 (A := [.o ip (.cells (peC v2 is e ig fi)), .o is (.cells [spL tk l])]) (B := E2) (C := [.o ig (.map em), .o i6 (.cells [i64v p.off, i64v (p.off + (total p.fs : Int))]), .o i3 (.cells (amC p)), .o ib (.cells (buC im)), .o im (.map es)]) H
    (refine wX ?_)
    (repeat ((first | (apply zL H; (· repeat first | exact .h | apply AtK.t); (· rfl)) | (apply zA H; (· repeat first | exact .h | apply AtK.t))); (refine wX ?_)))
    refine acall (sAdd (H.perm (.swap _ _ _)) (spanP p) (by have := hs.k; omega)) ?_
    clear H
    rintro _ τ ⟨rfl, u, H⟩
    replace H : Hp σb (.o is (.cells [spL u (addS (spanP p) l)]) :: .o ip (.cells (peC v2 is e ig fi)) :: .o ig (.map em) :: .o i6 (.cells [i64v p.off, i64v (p.off + (total p.fs : Int))]) :: .o i3 (.cells (amC p)) :: .o ib (.cells (buC im)) :: .o im (.map es) :: (E2 ++ (E ++ G))) τ := H
    (refine wX ?_)
    by_cases ha : addC (spanP p) l = 0
    case neg =>
      rw [add_no ha] at H
      (repeat ((refine zY (by omega) ?_); (refine wX ?_)))
      rw [RB.cells1 h]
      (refine wX ?_)
      apply zS H
      · repeat first | exact .h | apply AtK.t
      · show ((v : AVal).isCell && true) = true
        rw [RB.isCell h]; rfl
      (conv => whnf)
      clear H
      intro τ H
      (refine wX ?_)
      have H := Hp.rest (A := E2) (Hp.mid (A := [.o is (.cells [spL u l]), .o ip (.cells (peC v is e ig fi)), .o ig (.map em), .o i6 (.cells [i64v p.off, i64v (p.off + (total p.fs : Int))]), .o i3 (.cells (amC p)), .o ib (.cells (buC im)), .o im (.map es)]) (B := E2) H)
      skip
      exact aret (VLe.refl _) (Sub.refl _) ⟨by rw [hk], .inl ⟨by rw [hk]; exact ha, ⟨u, Hp.rest (A := [.o i6 (.cells [i64v p.off, i64v (p.off + (total p.fs : Int))]), .o i3 (.cells (amC p))]) (Hp.mid (A := [.o ip (.cells (peC v is e ig fi)), .o is (.cells [spL u l]), .o ig (.map em)]) (B := [.o i6 (.cells [i64v p.off, i64v (p.off + (total p.fs : Int))]), .o i3 (.cells (amC p))]) (C := .o ib (.cells (buC im)) :: .o im (.map es) :: (E ++ G)) (H.perm (.swap _ _ _)))⟩⟩⟩
    rw [ha]
    (refine wX ?_)
    (repeat (((apply zA H; (· repeat first | exact .h | apply AtK.t))); (refine wX ?_)))
    replace H : Hp σb (.o ip (.cells (peC v2 is e ig fi)) :: .o ig (.map em) :: .o is (.cells [spL u (addS (spanP p) l)]) :: (.o i6 (.cells [i64v p.off, i64v (p.off + (total p.fs : Int))]) :: .o i3 (.cells (amC p)) :: .o ib (.cells (buC im)) :: .o im (.map es) :: (E2 ++ (E ++ G)))) τ := H.perm (.trans (.swap _ _ _) (.cons _ (.swap _ _ _)))
    refine acall (peNote H h2.isCell p true (by omega) (by omega) (by omega)) ?_
    clear H
    rintro _ τ ⟨rfl, H⟩
    (refine wX ?_)
    (repeat (((apply zL H; (· repeat first | exact .h | apply AtK.t); (· rfl))); (refine wX ?_)))
    apply zMs H
    · (repeat first | exact .h | apply AtK.t)
    · rfl
    (conv => whnf)
    clear H
    intro τ H
    (refine wX ?_)
    rw [mapSet_same he] at H
    skip
    rw [hen]
    exact aret (VLe.refl _) (Sub.refl _) ⟨by rw [hk, ha], .inr ⟨by rw [hk, ha], ⟨v2, E2, u, h2, (Hp.rest (A := E) (Hp.mid (A := .o ip (.cells (peC v2 is (noteE p true e) ig (noteF p true fi))) :: .o ig (.map (noteM p true em)) :: .o is (.cells [spL u (addS (spanP p) l)]) :: .o ib (.cells (buC im)) :: .o im (.map es) :: E2) (B := E) (C := G) (Hp.rest (A := [.o i6 (.cells [i64v p.off, i64v (p.off + (total p.fs : Int))]), .o i3 (.cells (amC p))]) (Hp.mid (A := [.o ip (.cells (peC v2 is (noteE p true e) ig (noteF p true fi))), .o ig (.map (noteM p true em)), .o is (.cells [spL u (addS (spanP p) l)])]) (B := [.o i6 (.cells [i64v p.off, i64v (p.off + (total p.fs : Int))]), .o i3 (.cells (amC p))]) (C := .o ib (.cells (buC im)) :: .o im (.map es) :: (E2 ++ (E ++ G))) H)))).perm (.cons _ (.swap _ _ _))⟩⟩⟩
  · have hen : endsB p = p.last := by unfold endsB; rw [hp]; rfl
    refine abr_false (show (!p.part) = false by rw [hp]; rfl) ?_
    (refine wX ?_)
    (repeat (((apply zL H; (· repeat first | exact .h | apply AtK.t); (· rfl))); (refine wX ?_)))
    refine hlook H (k := 6) rfl ?_
    rw [he, Option.map_some, Option.getD_some]
    (refine wX ?_)
    (repeat (((apply zA H; (· repeat first | exact .h | apply AtK.t))); (refine wX ?_)))
    replace H := Hp.mid (A := [.o i6 (.cells [i64v p.off, i64v (p.off + (total p.fs : Int))]), .o i3 (.cells (amC p))]) (B := [.o ip (.cells (peC v is e ig fi)), .o is (.cells [spL tk l]), .o ig (.map em)]) (C := .o ib (.cells (buC im)) :: .o im (.map es) :: (E ++ G)) H
    replace H : Hp σb (.o ip (.cells (peC v is e ig fi)) :: .o is (.cells [spL tk l]) :: .o ig (.map em) :: .o i6 (.cells [i64v p.off, i64v (p.off + (total p.fs : Int))]) :: .o i3 (.cells (amC p)) :: .o ib (.cells (buC im)) :: .o im (.map es) :: (E ++ G)) τ := H
    refine acall (peFits (H.get (k := 0) rfl) (H.get (k := 1) rfl) (by have := hs.k; omega) (spanP p) p.last) ?_
    rintro _ σ_ ⟨rfl, e_⟩
    obtain rfl := e_.symm
    refine ⟨?_, Ext.refl _⟩
    (refine wX ?_)
    have hk : putK p l e = if fitsC l e (spanP p) p.last ≠ 0 then fitsC l e (spanP p) p.last else addC (spanP p) l := by unfold putK; rw [if_neg (by rw [hr]; simp), hen]
    by_cases hc : fitsC l e (spanP p) p.last = 0
    case neg =>
      rw [if_pos hc] at hk
      (repeat ((refine zY (by omega) ?_); (refine wX ?_)))
      exact aret (VLe.refl _) (Sub.refl _) ⟨by rw [hk], .inl ⟨by rw [hk]; exact hc, ⟨tk, Hp.rest (A := [.o i6 (.cells [i64v p.off, i64v (p.off + (total p.fs : Int))]), .o i3 (.cells (amC p))]) (Hp.mid (A := [.o ip (.cells (peC v is e ig fi)), .o is (.cells [spL tk l]), .o ig (.map em)]) (B := [.o i6 (.cells [i64v p.off, i64v (p.off + (total p.fs : Int))]), .o i3 (.cells (amC p))]) (C := .o ib (.cells (buC im)) :: .o im (.map es) :: (E ++ G)) H)⟩⟩⟩
    rw [if_neg (by rw [hc]; simp)] at hk
    rw [hc]
    (refine wX ?_)
    (repeat (((apply zL H; (· repeat first | exact .h | apply AtK.t); (· rfl))); (refine wX ?_)))
    refine acall (cloneB (RB.dv (F := [.o ip (.cells (peC v is e ig fi)), .o is (.cells [spL tk l]), .o ig (.map em), .o i6 (.cells [i64v p.off, i64v (p.off + (total p.fs : Int))]), .o i3 (.cells (amC p)), .o ib (.cells (buC im)), .o im (.map es)]) h H) (by omega)) ?_
    rintro v1 υ ⟨E1, h1, N⟩
    refine ⟨?_, N.ext⟩
    replace H := Hp.mid (A := E1) (B := [.o ip (.cells (peC v is e ig fi)), .o is (.cells [spL tk l]), .o ig (.map em), .o i6 (.cells [i64v p.off, i64v (p.off + (total p.fs : Int))]), .o i3 (.cells (amC p)), .o ib (.cells (buC im)), .o im (.map es)]) (C := E ++ G) (H.join N)
    replace H : Hp σb (.o ip (.cells (peC v is e ig fi)) :: .o is (.cells [spL tk l]) :: .o ig (.map em) :: .o i6 (.cells [i64v p.off, i64v (p.off + (total p.fs : Int))]) :: .o i3 (.cells (amC p)) :: .o ib (.cells (buC im)) :: .o im (.map es) :: (E1 ++ (E ++ G))) υ := H
    clear N
    (refine wX ?_)
    skip
    rw [h1.cells1]
    (refine wX ?_)
    apply zS H
    · exact .h
    · show (v1.isCell && true) = true
      rw [h1.isCell]; rfl
    (conv => whnf)
    clear H
    intro τ H
    (refine wX ?_)
    (repeat (((apply zL H; (· repeat first | exact .h | apply AtK.t); (· rfl))); (refine wX ?_)))
    replace H : Hp σb (.o ip (.cells (peC v1 is e ig fi)) :: .o is (.cells [spL tk l]) :: (E1 ++ ([.o ig (.map em), .o i6 (.cells [i64v p.off, i64v (p.off + (total p.fs : Int))]), .o i3 (.cells (amC p)), .o ib (.cells (buC im)), .o im (.map es)] ++ (E ++ G)))) τ :=
      Hp.mid (B := [.o ip (.cells (peC v1 is e ig fi)), .o is (.cells [spL tk l])]) (Hp.mid (A := [.o ip (.cells (peC v1 is e ig fi)), .o is (.cells [spL tk l]), .o ig (.map em), .o i6 (.cells [i64v p.off, i64v (p.off + (total p.fs : Int))]), .o i3 (.cells (amC p)), .o ib (.cells (buC im)), .o im (.map es)]) (B := E1) (C := E ++ G) H)
    refine acall (peFillA h1 H p.off.toNat p.off (by omega) p.fs.flatten hdn (by show p.off.toNat + p.fs.flatten.length ≤ _; omega) hD (by have := hs.k; omega)) ?_
    clear H h1
    rintro _ τ ⟨rfl, v2, E2, h2, H⟩
    replace H : Hp σb (.o ip (.cells (peC v2 is e ig fi)) :: .o is (.cells [spL tk l]) :: .o ig (.map em) :: .o i6 (.cells [i64v p.off, i64v (p.off + (total p.fs : Int))]) :: .o i3 (.cells (amC p)) :: .o ib (.cells (buC im)) :: .o im (.map es) :: (E2 ++ (E ++ G))) τ := Hp.mid2 (A := [.o ip (.cells (peC v2 is e ig fi)), .o is (.cells [spL tk l])]) (B := E2) (C := [.o ig (.map em), .o i6 (.cells [i64v p.off, i64v (p.off + (total p.fs : Int))]), .o i3 (.cells (amC p)), .o ib (.cells (buC im)), .o im (.map es)]) H
    (refine wX ?_)
    (repeat ((first | (apply zL H; (· repeat first | exact .h | apply AtK.t); (· rfl)) | (apply zA H; (· repeat first | exact .h | apply AtK.t))); (refine wX ?_)))
    refine acall (sAdd (H.perm (.swap _ _ _)) (spanP p) (by have := hs.k; omega)) ?_
    clear H
    rintro _ τ ⟨rfl, u, H⟩
    replace H : Hp σb (.o is (.cells [spL u (addS (spanP p) l)]) :: .o ip (.cells (peC v2 is e ig fi)) :: .o ig (.map em) :: .o i6 (.cells [i64v p.off, i64v (p.off + (total p.fs : Int))]) :: .o i3 (.cells (amC p)) :: .o ib (.cells (buC im)) :: .o im (.map es) :: (E2 ++ (E ++ G))) τ := H
    (refine wX ?_)
    by_cases ha : addC (spanP p) l = 0
    case neg =>
      rw [add_no ha] at H
      (repeat ((refine zY (by omega) ?_); (refine wX ?_)))
      rw [RB.cells1 h]
      (refine wX ?_)
      apply zS H
      · repeat first | exact .h | apply AtK.t
      · show ((v : AVal).isCell && true) = true
        rw [RB.isCell h]; rfl
      (conv => whnf)
      clear H
      intro τ H
      (refine wX ?_)
      have H := Hp.rest (A := E2) (Hp.mid (A := [.o is (.cells [spL u l]), .o ip (.cells (peC v is e ig fi)), .o ig (.map em), .o i6 (.cells [i64v p.off, i64v (p.off + (total p.fs : Int))]), .o i3 (.cells (amC p)), .o ib (.cells (buC im)), .o im (.map es)]) (B := E2) H)
      skip
      exact aret (VLe.refl _) (Sub.refl _) ⟨by rw [hk], .inl ⟨by rw [hk]; exact ha, ⟨u, Hp.rest (A := [.o i6 (.cells [i64v p.off, i64v (p.off + (total p.fs : Int))]), .o i3 (.cells (amC p))]) (Hp.mid (A := [.o ip (.cells (peC v is e ig fi)), .o is (.cells [spL u l]), .o ig (.map em)]) (B := [.o i6 (.cells [i64v p.off, i64v (p.off + (total p.fs : Int))]), .o i3 (.cells (amC p))]) (C := .o ib (.cells (buC im)) :: .o im (.map es) :: (E ++ G)) (H.perm (.swap _ _ _)))⟩⟩⟩
    rw [ha]
    (refine wX ?_)
    (repeat (((apply zA H; (· repeat first | exact .h | apply AtK.t))); (refine wX ?_)))
    replace H : Hp σb (.o ip (.cells (peC v2 is e ig fi)) :: .o ig (.map em) :: .o is (.cells [spL u (addS (spanP p) l)]) :: (.o i6 (.cells [i64v p.off, i64v (p.off + (total p.fs : Int))]) :: .o i3 (.cells (amC p)) :: .o ib (.cells (buC im)) :: .o im (.map es) :: (E2 ++ (E ++ G)))) τ := H.perm (.trans (.swap _ _ _) (.cons _ (.swap _ _ _)))
    refine acall (peNote H h2.isCell p p.last (by omega) (by omega) (by omega)) ?_
    clear H
    rintro _ τ ⟨rfl, H⟩
    (refine wX ?_)
    (repeat (((apply zL H; (· repeat first | exact .h | apply AtK.t); (· rfl))); (refine wX ?_)))
    apply zMs H
    · (repeat first | exact .h | apply AtK.t)
    · rfl
    (conv => whnf)
    clear H
    intro τ H
    (refine wX ?_)
    rw [mapSet_same he] at H
    skip
    rw [hen]
    exact aret (VLe.refl _) (Sub.refl _) ⟨by rw [hk, ha], .inr ⟨by rw [hk, ha], ⟨v2, E2, u, h2, (Hp.rest (A := E) (Hp.mid (A := .o ip (.cells (peC v2 is (noteE p p.last e) ig (noteF p p.last fi))) :: .o ig (.map (noteM p p.last em)) :: .o is (.cells [spL u (addS (spanP p) l)]) :: .o ib (.cells (buC im)) :: .o im (.map es) :: E2) (B := E) (C := G) (Hp.rest (A := [.o i6 (.cells [i64v p.off, i64v (p.off + (total p.fs : Int))]), .o i3 (.cells (amC p))]) (Hp.mid (A := [.o ip (.cells (peC v2 is (noteE p p.last e) ig (noteF p p.last fi))), .o ig (.map (noteM p p.last em)), .o is (.cells [spL u (addS (spanP p) l)])]) (B := [.o i6 (.cells [i64v p.off, i64v (p.off + (total p.fs : Int))]), .o i3 (.cells (amC p))]) (C := .o ib (.cells (buC im)) :: .o im (.map es) :: (E2 ++ (E ++ G))) H)))).perm (.cons _ (.swap _ _ _))⟩⟩⟩

set_option maxHeartbeats 8000000 in
theorem buPutNew (H : Hp σb (.o ib (.cells (buC im)) :: .o im (.map es) :: G) σ) (p : Pk) (hf : es.find? (fun e => e.1 == p.sn) = none) (hl : p.fs.length ≤ 1000) (ht : total p.fs ≤ 1000000) :
    ACalls Try.prog i_rxbuf_Buffer_Put [.ptr ib 0, amV p] σ fun r σ' => r = i64v (putK p [] (-1)) ∧
      ((putK p [] (-1) ≠ 0 ∧ Hp σb (.o ib (.cells (buC im)) :: .o im (.map es) :: G) σ') ∨
       (putK p [] (-1) = 0 ∧ ∃ ip is ig v2 E2 u, RB v2 (fillB [] p.off.toNat p.fs.flatten []) E2 ∧ Hp σb (.o ip (.cells (peC v2 is (noteE p (endsB p) (-1)) ig (noteF p (endsB p) 0))) :: .o is (.cells [spL u (addS (spanP p) [])]) :: .o ig (.map (noteM p (endsB p) [])) :: .o ib (.cells (buC im)) :: .o im (.map (es ++ [(p.sn, .ptr ip 0)])) :: (E2 ++ G)) σ')) := by
  refine k_rxbuf_Buffer_Put rfl ?_
  (refine wX ?_)
  refine hnew H rfl ?_
  clear H
  intro i3 τ H
  (refine wX ?_)
  refine acall (buMade (H.get (k := 1) rfl)) ?_
  rintro _ σ_ ⟨rfl, e_⟩
  obtain rfl := e_.symm
  refine ⟨?_, Ext.refl _⟩
  (refine wX ?_)
  (repeat (((apply zA H; (· repeat first | exact .h | apply AtK.t))); (refine wX ?_)))
  refine acall (buRight p τ hl (by omega)) ?_
  rintro _ σ_ ⟨rfl, e_⟩
  obtain rfl := e_.symm
  refine ⟨?_, Ext.refl _⟩
  (refine wX ?_)
  rcases (show rightB p = false ∨ rightB p = true by cases rightB p <;> simp) with hr | hr
  · have hk : putK p [] (-1) = 1 := by unfold putK; rw [if_pos hr]
    rw [hr]
    (refine wX ?_)
    skip
    exact aret (VLe.refl _) (Sub.refl _) ⟨by rw [hk], .inl ⟨by rw [hk]; decide, H.tail⟩⟩
  rw [hr]
  obtain ⟨g1, g2, g3, g4, g5, g6, g7, g8, g9⟩ := right_ok hr
  have gp := right_pos hr
  have hdn : p.fs.flatten ≠ [] := fun h => by have : total p.fs = 0 := by unfold total; rw [h]; rfl
                                              omega
  have htl : p.fs.flatten.length = total p.fs := rfl
  (refine wX ?_)
  (repeat (((apply zA H; (· repeat first | exact .h | apply AtK.t))); (refine wX ?_)))
  refine acall (aData p τ hl (by omega)) ?_
  rintro _ σ_ ⟨rfl, e_⟩
  obtain rfl := e_.symm
  refine ⟨?_, Ext.refl _⟩
  (refine wX ?_)
  (repeat ((first | refine zI (by omega) ?_ | (apply zL H; (· repeat first | exact .h | apply AtK.t); (· rfl)) | rw [List.length_map]); (refine wX ?_)))
  refine hnew H rfl ?_
  clear H
  intro i6 τ H
  (refine wX ?_)
  (repeat ((first | (apply zL H; (· repeat first | exact .h | apply AtK.t); (· rfl)) | (apply zS H; (· repeat first | exact .h | apply AtK.t); (· rfl); (conv => whnf); clear H; intro τ H)); (refine wX ?_)))
  rcases (show p.part = false ∨ p.part = true by cases p.part <;> simp) with hp | hp
  · have hen : endsB p = true := by unfold endsB; rw [hp]; rfl
    refine abr_true (show (!p.part) = true by rw [hp]; rfl) ?_
    (refine wX ?_)
    (repeat (((apply zL H; (· repeat first | exact .h | apply AtK.t); (· rfl))); (refine wX ?_)))
    refine hlook H (k := 3) rfl ?_
    rw [hf]
    (refine wX ?_)
    skip
    refine acall (sNew [] .full τ (by simp)) ?_
    rintro _ σ2 (⟨h, _⟩ | ⟨_, is, u0, rfl, N⟩)
    · exact (h rfl).elim
    refine ⟨?_, N.ext⟩
    replace H := H.join N
    clear N
    (refine wX ?_)
    skip
    refine hnewmap H ?_
    clear H
    intro ig τ H
    (refine wX ?_)
    skip
    refine hnew H rfl ?_
    clear H
    intro ip τ H
    (refine wX ?_)
    (repeat (((apply zA H; (· repeat first | exact .h | apply AtK.t))); (refine wX ?_)))
    replace H : Hp σb (.o ip (.cells (peC (.slice 1 [] .full) is (-1) ig 0)) :: .o is (.cells [spL u0 []]) :: .o ig (.map []) :: .o i6 (.cells [i64v p.off, i64v (p.off + (total p.fs : Int))]) :: .o i3 (.cells (amC p)) :: .o ib (.cells (buC im)) :: .o im (.map es) :: ([] ++ G)) τ := H.perm (.cons _ (.swap _ _ _))
    refine acall (peFits (H.get (k := 0) rfl) (H.get (k := 1) rfl) (by have := SOk.nil.k; omega) (spanP p) true) ?_
    rintro _ σ_ ⟨rfl, e_⟩
    obtain rfl := e_.symm
    refine ⟨?_, Ext.refl _⟩
    (refine wX ?_)
    have hk : putK p [] (-1) = if fitsC [] (-1) (spanP p) true ≠ 0 then fitsC [] (-1) (spanP p) true else addC (spanP p) [] := by unfold putK; rw [if_neg (by rw [hr]; simp), hen]
    by_cases hc : fitsC [] (-1) (spanP p) true = 0
    case neg =>
      rw [if_pos hc] at hk
      (repeat ((refine zY (by omega) ?_); (refine wX ?_)))
      exact aret (VLe.refl _) (Sub.refl _) ⟨by rw [hk], .inl ⟨by rw [hk]; exact hc, Hp.rest (A := [.o ip (.cells (peC (.slice 1 [] .full) is (-1) ig 0)), .o is (.cells [spL u0 []]), .o ig (.map [])] ++ [.o i6 (.cells [i64v p.off, i64v (p.off + (total p.fs : Int))]), .o i3 (.cells (amC p))]) H⟩⟩
    rw [if_neg (by rw [hc]; simp)] at hk
    rw [hc]
    (refine wX ?_)
    (repeat (((apply zL H; (· repeat first | exact .h | apply AtK.t); (· rfl))); (refine wX ?_)))
    refine acall (cloneB (RB.dv (F := [.o ip (.cells (peC (.slice 1 [] .full) is (-1) ig 0)), .o is (.cells [spL u0 []]), .o ig (.map []), .o i6 (.cells [i64v p.off, i64v (p.off + (total p.fs : Int))]), .o i3 (.cells (amC p)), .o ib (.cells (buC im)), .o im (.map es)]) RB.nil H) (by simp)) ?_
    rintro v1 υ ⟨E1, h1, N⟩
    refine ⟨?_, N.ext⟩
    replace H := Hp.mid (A := E1) (B := [.o ip (.cells (peC (.slice 1 [] .full) is (-1) ig 0)), .o is (.cells [spL u0 []]), .o ig (.map []), .o i6 (.cells [i64v p.off, i64v (p.off + (total p.fs : Int))]), .o i3 (.cells (amC p)), .o ib (.cells (buC im)), .o im (.map es)]) (C := ([] : List HE) ++ G) (H.join N)
    replace H : Hp σb (.o ip (.cells (peC (.slice 1 [] .full) is (-1) ig 0)) :: .o is (.cells [spL u0 []]) :: .o ig (.map []) :: .o i6 (.cells [i64v p.off, i64v (p.off + (total p.fs : Int))]) :: .o i3 (.cells (amC p)) :: .o ib (.cells (buC im)) :: .o im (.map es) :: (E1 ++ (([] : List HE) ++ G))) υ := H
    clear N
    (refine wX ?_)
    skip
    rw [h1.cells1]
    (refine wX ?_)
    apply zS H
    · exact .h
    · show (v1.isCell && true) = true
      rw [h1.isCell]; rfl
    (conv => whnf)
    clear H
    intro τ H
    (refine wX ?_)
    (repeat (((apply zL H; (· repeat first | exact .h | apply AtK.t); (· rfl))); (refine wX ?_)))
    replace H : Hp σb (.o ip (.cells (peC v1 is (-1) ig 0)) :: .o is (.cells [spL u0 []]) :: (E1 ++ ([.o ig (.map []), .o i6 (.cells [i64v p.off, i64v (p.off + (total p.fs : Int))]), .o i3 (.cells (amC p)), .o ib (.cells (buC im)), .o im (.map es)] ++ (([] : List HE) ++ G)))) τ :=
      Hp.mid (B := [.o ip (.cells (peC v1 is (-1) ig 0)), .o is (.cells [spL u0 []])]) (Hp.mid (A := [.o ip (.cells (peC v1 is (-1) ig 0)), .o is (.cells [spL u0 []]), .o ig (.map []), .o i6 (.cells [i64v p.off, i64v (p.off + (total p.fs : Int))]), .o i3 (.cells (amC p)), .o ib (.cells (buC im)), .o im (.map es)]) (B := E1) (C := ([] : List HE) ++ G) H)
    refine acall (peFillA h1 H p.off.toNat p.off (by omega) p.fs.flatten hdn (by show p.off.toNat + p.fs.flatten.length ≤ _; omega) (by simp) (by have := SOk.nil.k; omega)) ?_
    clear H h1
    rintro _ τ ⟨rfl, v2, E2, h2, H⟩
    replace H : Hp σb (.o ip (.cells (peC v2 is (-1) ig 0)) :: .o is (.cells [spL u0 []]) :: .o ig (.map []) :: .o i6 (.cells [i64v p.off, i64v (p.off + (total p.fs : Int))]) :: .o i3 (.cells (amC p)) :: .o ib (.cells (buC im)) :: .o im (.map es) :: (E2 ++ (([] : List HE) ++ G))) τ := Hp.mid2 (A := [.o ip (.cells (peC v2 is (-1) ig 0)), .o is (.cells [spL u0 []])]) (B := E2) (C := [.o ig (.map []), .o i6 (.cells [i64v p.off, i64v (p.off + (total p.fs : Int))]), .o i3 (.cells (amC p)), .o ib (.cells (buC im)), .o im (.map es)]) H
    (refine wX ?_)
    (repeat ((first | (apply zL H; (· repeat first | exact .h | apply AtK.t); (· rfl)) | (apply zA H; (· repeat first | exact .h | apply AtK.t))); (refine wX ?_)))
    refine acall (sAdd (H.perm (.swap _ _ _)) (spanP p) (by have := SOk.nil.k; omega)) ?_
    clear H
    rintro _ τ ⟨rfl, u, H⟩
    replace H : Hp σb (.o is (.cells [spL u (addS (spanP p) [])]) :: .o ip (.cells (peC v2 is (-1) ig 0)) :: .o ig (.map []) :: .o i6 (.cells [i64v p.off, i64v (p.off + (total p.fs : Int))]) :: .o i3 (.cells (amC p)) :: .o ib (.cells (buC im)) :: .o im (.map es) :: (E2 ++ (([] : List HE) ++ G))) τ := H
    (refine wX ?_)
    by_cases ha : addC (spanP p) [] = 0
    case neg =>
      rw [add_no ha] at H
      (repeat ((first | refine zY (by omega) ?_ | (apply zS H; (· repeat first | exact .h | apply AtK.t); (· rfl); (conv => whnf); clear H; intro τ H)); (refine wX ?_)))
      have H := Hp.rest (A := E2) (Hp.mid (A := [.o is (.cells [spL u []]), .o ip (.cells (peC (.slice 1 [] .full) is (-1) ig 0)), .o ig (.map []), .o i6 (.cells [i64v p.off, i64v (p.off + (total p.fs : Int))]), .o i3 (.cells (amC p)), .o ib (.cells (buC im)), .o im (.map es)]) (B := E2) H)
      skip
      exact aret (VLe.refl _) (Sub.refl _) ⟨by rw [hk], .inl ⟨by rw [hk]; exact ha, Hp.rest (A := [.o is (.cells [spL u []]), .o ip (.cells (peC (.slice 1 [] .full) is (-1) ig 0)), .o ig (.map [])] ++ [.o i6 (.cells [i64v p.off, i64v (p.off + (total p.fs : Int))]), .o i3 (.cells (amC p))]) H⟩⟩
    rw [ha]
    (refine wX ?_)
    (repeat (((apply zA H; (· repeat first | exact .h | apply AtK.t))); (refine wX ?_)))
    replace H : Hp σb (.o ip (.cells (peC v2 is (-1) ig 0)) :: .o ig (.map []) :: .o is (.cells [spL u (addS (spanP p) [])]) :: (.o i6 (.cells [i64v p.off, i64v (p.off + (total p.fs : Int))]) :: .o i3 (.cells (amC p)) :: .o ib (.cells (buC im)) :: .o im (.map es) :: (E2 ++ (([] : List HE) ++ G)))) τ := H.perm (.trans (.swap _ _ _) (.cons _ (.swap _ _ _)))
    refine acall (peNote H h2.isCell p true (by omega) (by omega) (by omega)) ?_
    clear H
    rintro _ τ ⟨rfl, H⟩
    (refine wX ?_)
    (repeat (((apply zL H; (· repeat first | exact .h | apply AtK.t); (· rfl))); (refine wX ?_)))
    apply zMs H
    · (repeat first | exact .h | apply AtK.t)
    · rfl
    (conv => whnf)
    clear H
    intro τ H
    (refine wX ?_)
    rw [mapSet_new hf] at H
    skip
    rw [hen]
    exact aret (VLe.refl _) (Sub.refl _) ⟨by rw [hk, ha], .inr ⟨by rw [hk, ha], ⟨ip, is, ig, v2, E2, u, h2, (Hp.rest (A := [.o i6 (.cells [i64v p.off, i64v (p.off + (total p.fs : Int))]), .o i3 (.cells (amC p))]) (Hp.mid (A := [.o ip (.cells (peC v2 is (noteE p true (-1)) ig (noteF p true 0))), .o ig (.map (noteM p true [])), .o is (.cells [spL u (addS (spanP p) [])])]) (B := [.o i6 (.cells [i64v p.off, i64v (p.off + (total p.fs : Int))]), .o i3 (.cells (amC p))]) (C := .o ib (.cells (buC im)) :: .o im (.map (es ++ [(p.sn, AVal.ptr ip 0)])) :: (E2 ++ G)) H)).perm (.cons _ (.swap _ _ _))⟩⟩⟩
  · have hen : endsB p = p.last := by unfold endsB; rw [hp]; rfl
    refine abr_false (show (!p.part) = false by rw [hp]; rfl) ?_
    (refine wX ?_)
    (repeat (((apply zL H; (· repeat first | exact .h | apply AtK.t); (· rfl))); (refine wX ?_)))
    refine hlook H (k := 3) rfl ?_
    rw [hf]
    (refine wX ?_)
    skip
    refine acall (sNew [] .full τ (by simp)) ?_
    rintro _ σ2 (⟨h, _⟩ | ⟨_, is, u0, rfl, N⟩)
    · exact (h rfl).elim
    refine ⟨?_, N.ext⟩
    replace H := H.join N
    clear N
    (refine wX ?_)
    skip
    refine hnewmap H ?_
    clear H
    intro ig τ H
    (refine wX ?_)
    skip
    refine hnew H rfl ?_
    clear H
    intro ip τ H
    (refine wX ?_)
    (repeat (((apply zA H; (· repeat first | exact .h | apply AtK.t))); (refine wX ?_)))
    replace H : Hp σb (.o ip (.cells (peC (.slice 1 [] .full) is (-1) ig 0)) :: .o is (.cells [spL u0 []]) :: .o ig (.map []) :: .o i6 (.cells [i64v p.off, i64v (p.off + (total p.fs : Int))]) :: .o i3 (.cells (amC p)) :: .o ib (.cells (buC im)) :: .o im (.map es) :: ([] ++ G)) τ := H.perm (.cons _ (.swap _ _ _))
    refine acall (peFits (H.get (k := 0) rfl) (H.get (k := 1) rfl) (by have := SOk.nil.k; omega) (spanP p) p.last) ?_
    rintro _ σ_ ⟨rfl, e_⟩
    obtain rfl := e_.symm
    refine ⟨?_, Ext.refl _⟩
    (refine wX ?_)
    have hk : putK p [] (-1) = if fitsC [] (-1) (spanP p) p.last ≠ 0 then fitsC [] (-1) (spanP p) p.last else addC (spanP p) [] := by unfold putK; rw [if_neg (by rw [hr]; simp), hen]
    by_cases hc : fitsC [] (-1) (spanP p) p.last = 0
    case neg =>
      rw [if_pos hc] at hk
      (repeat ((refine zY (by omega) ?_); (refine wX ?_)))
      exact aret (VLe.refl _) (Sub.refl _) ⟨by rw [hk], .inl ⟨by rw [hk]; exact hc, Hp.rest (A := [.o ip (.cells (peC (.slice 1 [] .full) is (-1) ig 0)), .o is (.cells [spL u0 []]), .o ig (.map [])] ++ [.o i6 (.cells [i64v p.off, i64v (p.off + (total p.fs : Int))]), .o i3 (.cells (amC p))]) H⟩⟩
    rw [if_neg (by rw [hc]; simp)] at hk
    rw [hc]
    (refine wX ?_)
    (repeat (((apply zL H; (· repeat first | exact .h | apply AtK.t); (· rfl))); (refine wX ?_)))
    refine acall (cloneB (RB.dv (F := [.o ip (.cells (peC (.slice 1 [] .full) is (-1) ig 0)), .o is (.cells [spL u0 []]), .o ig (.map []), .o i6 (.cells [i64v p.off, i64v (p.off + (total p.fs : Int))]), .o i3 (.cells (amC p)), .o ib (.cells (buC im)), .o im (.map es)]) RB.nil H) (by simp)) ?_
    rintro v1 υ ⟨E1, h1, N⟩
    refine ⟨?_, N.ext⟩
    replace H := Hp.mid (A := E1) (B := [.o ip (.cells (peC (.slice 1 [] .full) is (-1) ig 0)), .o is (.cells [spL u0 []]), .o ig (.map []), .o i6 (.cells [i64v p.off, i64v (p.off + (total p.fs : Int))]), .o i3 (.cells (amC p)), .o ib (.cells (buC im)), .o im (.map es)]) (C := ([] : List HE) ++ G) (H.join N)
    replace H : Hp σb (.o ip (.cells (peC (.slice 1 [] .full) is (-1) ig 0)) :: .o is (.cells [spL u0 []]) :: .o ig (.map []) :: .o i6 (.cells [i64v p.off, i64v (p.off + (total p.fs : Int))]) :: .o i3 (.cells (amC p)) :: .o ib (.cells (buC im)) :: .o im (.map es) :: (E1 ++ (([] : List HE) ++ G))) υ := H
    clear N
    (refine wX ?_)
    skip
    rw [h1.cells1]
    (refine wX ?_)
    apply zS H
    · exact .h
    · show (v1.isCell && true) = true
      rw [h1.isCell]; rfl
    (conv => whnf)
    clear H
    intro τ H
    (refine wX ?_)
    (repeat (((apply zL H; (· repeat first | exact .h | apply AtK.t); (· rfl))); (refine wX ?_)))
    replace H : Hp σb (.o ip (.cells (peC v1 is (-1) ig 0)) :: .o is (.cells [spL u0 []]) :: (E1 ++ ([.o ig (.map []), .o i6 (.cells [i64v p.off, i64v (p.off + (total p.fs : Int))]), .o i3 (.cells (amC p)), .o ib (.cells (buC im)), .o im (.map es)] ++ (([] : List HE) ++ G)))) τ :=
      Hp.mid (B := [.o ip (.cells (peC v1 is (-1) ig 0)), .o is (.cells [spL u0 []])]) (Hp.mid (A := [.o ip (.cells (peC v1 is (-1) ig 0)), .o is (.cells [spL u0 []]), .o ig (.map []), .o i6 (.cells [i64v p.off, i64v (p.off + (total p.fs : Int))]), .o i3 (.cells (amC p)), .o ib (.cells (buC im)), .o im (.map es)]) (B := E1) (C := ([] : List HE) ++ G) H)
    refine acall (peFillA h1 H p.off.toNat p.off (by omega) p.fs.flatten hdn (by show p.off.toNat + p.fs.flatten.length ≤ _; omega) (by simp) (by have := SOk.nil.k; omega)) ?_
    clear H h1
    rintro _ τ ⟨rfl, v2, E2, h2, H⟩
    replace H : Hp σb (.o ip (.cells (peC v2 is (-1) ig 0)) :: .o is (.cells [spL u0 []]) :: .o ig (.map []) :: .o i6 (.cells [i64v p.off, i64v (p.off + (total p.fs : Int))]) :: .o i3 (.cells (amC p)) :: .o ib (.cells (buC im)) :: .o im (.map es) :: (E2 ++ (([] : List HE) ++ G))) τ := Hp.mid2 (A := [.o ip (.cells (peC v2 is (-1) ig 0)), .o is (.cells [spL u0 []])]) (B := E2) (C := [.o ig (.map []), .o i6 (.cells [i64v p.off, i64v (p.off + (total p.fs : Int))]), .o i3 (.cells (amC p)), .o ib (.cells (buC im)), .o im (.map es)]) H
    (refine wX ?_)
    (repeat ((first | (apply zL H; (· repeat first | exact .h | apply AtK.t); (· rfl)) | (apply zA H; (· repeat first | exact .h | apply AtK.t))); (refine wX ?_)))
    refine acall (sAdd (H.perm (.swap _ _ _)) (spanP p) (by have := SOk.nil.k; omega)) ?_
    clear H
    rintro _ τ ⟨rfl, u, H⟩
    replace H : Hp σb (.o is (.cells [spL u (addS (spanP p) [])]) :: .o ip (.cells (peC v2 is (-1) ig 0)) :: .o ig (.map []) :: .o i6 (.cells [i64v p.off, i64v (p.off + (total p.fs : Int))]) :: .o i3 (.cells (amC p)) :: .o ib (.cells (buC im)) :: .o im (.map es) :: (E2 ++ (([] : List HE) ++ G))) τ := H
    (refine wX ?_)
    by_cases ha : addC (spanP p) [] = 0
    case neg =>
      rw [add_no ha] at H
      (repeat ((first | refine zY (by omega) ?_ | (apply zS H; (· repeat first | exact .h | apply AtK.t); (· rfl); (conv => whnf); clear H; intro τ H)); (refine wX ?_)))
      have H := Hp.rest (A := E2) (Hp.mid (A := [.o is (.cells [spL u []]), .o ip (.cells (peC (.slice 1 [] .full) is (-1) ig 0)), .o ig (.map []), .o i6 (.cells [i64v p.off, i64v (p.off + (total p.fs : Int))]), .o i3 (.cells (amC p)), .o ib (.cells (buC im)), .o im (.map es)]) (B := E2) H)
      skip
      exact aret (VLe.refl _) (Sub.refl _) ⟨by rw [hk], .inl ⟨by rw [hk]; exact ha, Hp.rest (A := [.o is (.cells [spL u []]), .o ip (.cells (peC (.slice 1 [] .full) is (-1) ig 0)), .o ig (.map [])] ++ [.o i6 (.cells [i64v p.off, i64v (p.off + (total p.fs : Int))]), .o i3 (.cells (amC p))]) H⟩⟩
    rw [ha]
    (refine wX ?_)
    (repeat (((apply zA H; (· repeat first | exact .h | apply AtK.t))); (refine wX ?_)))
    replace H : Hp σb (.o ip (.cells (peC v2 is (-1) ig 0)) :: .o ig (.map []) :: .o is (.cells [spL u (addS (spanP p) [])]) :: (.o i6 (.cells [i64v p.off, i64v (p.off + (total p.fs : Int))]) :: .o i3 (.cells (amC p)) :: .o ib (.cells (buC im)) :: .o im (.map es) :: (E2 ++ (([] : List HE) ++ G)))) τ := H.perm (.trans (.swap _ _ _) (.cons _ (.swap _ _ _)))
    refine acall (peNote H h2.isCell p p.last (by omega) (by omega) (by omega)) ?_
    clear H
    rintro _ τ ⟨rfl, H⟩
    (refine wX ?_)
    (repeat (((apply zL H; (· repeat first | exact .h | apply AtK.t); (· rfl))); (refine wX ?_)))
    apply zMs H
    · (repeat first | exact .h | apply AtK.t)
    · rfl
    (conv => whnf)
    clear H
    intro τ H
    (refine wX ?_)
    rw [mapSet_new hf] at H
    skip
    rw [hen]
    exact aret (VLe.refl _) (Sub.refl _) ⟨by rw [hk, ha], .inr ⟨by rw [hk, ha], ⟨ip, is, ig, v2, E2, u, h2, (Hp.rest (A := [.o i6 (.cells [i64v p.off, i64v (p.off + (total p.fs : Int))]), .o i3 (.cells (amC p))]) (Hp.mid (A := [.o ip (.cells (peC v2 is (noteE p p.last (-1)) ig (noteF p p.last 0))), .o ig (.map (noteM p p.last [])), .o is (.cells [spL u (addS (spanP p) [])])]) (B := [.o i6 (.cells [i64v p.off, i64v (p.off + (total p.fs : Int))]), .o i3 (.cells (amC p))]) (C := .o ib (.cells (buC im)) :: .o im (.map (es ++ [(p.sn, AVal.ptr ip 0)])) :: (E2 ++ G)) H)).perm (.cons _ (.swap _ _ _))⟩⟩⟩
end
end Go.Proofs.Ytgbpjbpdpgbngaa
/-
  Views of rows of bytes that skip on being stored into: cut, and copied.
-/
namespace Go.Proofs.Ytgbpjbpdpgbngaa
open Go Go.Am

/-- A view of a row's bytes, of which some may lie ahead or behind. -/
def MsV (σ : AHeap) (r off : Nat) (b : List UInt8) : Prop := ∃ bs : List UInt8, σ r = some (.cells (bs.map byteV)) ∧ off + b.length ≤ bs.length ∧ (bs.drop off).take b.length = b
theorem MsV.sub {σ σ' : AHeap} {r off : Nat} {b : List UInt8} (h : MsV σ r off b) (k : Sub σ' σ) : MsV σ' r off b := by
  obtain ⟨bs, h1, h2, h3⟩ := h; exact ⟨bs, k _ _ h1, h2, h3⟩
theorem MsV.cut {σ : AHeap} {r off : Nat} {b : List UInt8} (h : MsV σ r off b) {l n : Nat} (hn : l ≤ n) (hl : n ≤ b.length) : MsV σ r (off + l) ((b.take n).drop l) := by
  obtain ⟨bs, h1, h2, h3⟩ := h
  have hlen : ((b.take n).drop l).length = n - l := by rw [List.length_drop, List.length_take]; omega
  refine ⟨bs, h1, by omega, ?_⟩
  rw [hlen]
  conv => rhs; rw [← h3]
  rw [List.take_take, Nat.min_eq_left hl, List.drop_take, List.drop_drop]
theorem CloneW (r off : Nat) (b : List UInt8) (σ : AHeap) (hs : MsV σ r off b) (hl : b.length ≤ 140737488355328) : ACalls Try.prog i_slices_Clone_byte_byte [.ms r 1 off b.length] σ fun v σ' => ∃ tk, Owned σ σ' tk ∧ v = sl tk b := by
  obtain ⟨bs, h1, h2, h3⟩ := hs
  refine k_slices_Clone_byte_byte rfl ?_
  (refine wX ?_)
  refine ⟨⟨_, h1, by rw [List.length_map]; omega, ?_⟩⟩
  rw [← List.map_drop, ← List.map_take, h3]
  refine aapp_full (by rw [List.length_map]; simp; omega) fun t' ht' => ?_
  (refine wX ?_)
  exact aret_same ⟨_, .tip ht', rfl⟩
/-- Bytes that are given: as they are, or as a view of a row. -/
def Src (σ : AHeap) (v : AVal) (b : List UInt8) : Prop := (∃ t, v = sl t b) ∨ ∃ r off, v = .ms r 1 off b.length ∧ MsV σ r off b
theorem Src.sub {σ σ' : AHeap} {v : AVal} {b : List UInt8} (h : Src σ v b) (k : Sub σ' σ) : Src σ' v b := by
  rcases h with h | ⟨r, off, h, m⟩
  · exact .inl h
  · exact .inr ⟨r, off, h, m.sub k⟩
theorem acutm {σ : AHeap} {r off l n : Nat} {b : List UInt8} {K : AVal → Prop} (hs : MsV σ r off b) (hl : l ≤ n) (hn : n ≤ b.length) (h : ∀ v, Src σ v ((b.take n).drop l) → K v) : ACutM r 1 off l n K := by
  have hlen : ((b.take n).drop l).length = n - l := by rw [List.length_drop, List.length_take]; omega
  refine ⟨?_⟩
  by_cases e : l < n
  · refine .inl ⟨e, h _ (.inr ⟨r, off + l, by rw [hlen, Nat.mul_one], hs.cut hl hn⟩)⟩
  · refine .inr (.inr ⟨by omega, h _ (.inl ⟨.none, ?_⟩)⟩)
    rw [List.length_eq_zero_iff.1 (by omega : ((b.take n).drop l).length = 0)]; rfl
theorem CloneS (v : AVal) (b : List UInt8) (σ : AHeap) (hs : Src σ v b) (hl : b.length ≤ 140737488355328) : ACalls Try.prog i_slices_Clone_byte_byte [v] σ fun v σ' => ∃ tk, Owned σ σ' tk ∧ v = sl tk b := by
  rcases hs with ⟨t, rfl⟩ | ⟨r, off, rfl, m⟩
  · exact Clone b _ _ hl
  · exact CloneW r off b σ m hl
end Go.Proofs.Ytgbpjbpdpgbngaa
/-
  What came in parts: what is missing, and what is taken.
-/
namespace Go.Proofs.Ytgbpjbpdpgbngaa
set_option maxRecDepth 20000
open Go Go.Am

/-- Is a place an edge? -/
def hasE (em : List (Int × AVal)) (k : Int) : Bool := (em.find? fun e => e.1 == k).isSome
def AllT (em : List (Int × AVal)) : Prop := ∀ x ∈ em, x.2 = trueV
theorem look_edge {em : List (Int × AVal)} (h : AllT em) (k : Int) : (((em.find? fun e => e.1 == k).map (·.2)).getD (.v (.bool false))) = boolv (hasE em k) := by
  unfold hasE
  cases hf : em.find? fun e => e.1 == k with
  | none => rfl
  | some x => rw [Option.map_some, Option.getD_some, h x (List.mem_of_find?_eq_some hf)]; rfl
theorem AllT.set : ∀ {em : List (Int × AVal)} {k : Int}, AllT em → AllT (mapSet em k trueV)
  | [], k, _ => fun x hx => by simp [mapSet] at hx; rw [hx]
  | (m, y) :: r, k, h => by
    intro x hx
    by_cases hm : m = k
    · simp [mapSet, hm] at hx
      rcases hx with rfl | hx
      · rfl
      · exact h x (List.mem_cons_of_mem _ hx)
    · simp [mapSet, hm] at hx
      rcases hx with rfl | hx
      · exact h _ (List.mem_cons_self ..)
      · exact AllT.set (fun z hz => h z (List.mem_cons_of_mem _ hz)) x hx
theorem hasE_set : ∀ {em : List (Int × AVal)} {k j : Int}, hasE (mapSet em k trueV) j = (decide (j = k) || hasE em j)
  | [], k, j => by
    by_cases h : j = k
    · subst h; simp [mapSet, hasE]
    · simp [mapSet, hasE, h, Ne.symm h]
  | (m, y) :: r, k, j => by
    have ih := hasE_set (em := r) (k := k) (j := j)
    by_cases hm : m = k
    · subst hm
      by_cases h : j = m
      · subst h; simp [mapSet, hasE]
      · simp [mapSet, hasE, h, Ne.symm h]
    · by_cases h : m = j
      · subst h; simp [mapSet, hasE, hm]
      · have hb : (m == j) = false := by simp [h]
        have e1 : mapSet ((m, y) :: r) k trueV = (m, y) :: mapSet r k trueV := by simp [mapSet, hm]
        unfold hasE at ih ⊢
        rw [e1, List.find?_cons, List.find?_cons]
        dsimp only
        rw [hb]
        exact ih
theorem AllT.noteN {p : Pk} {em : List (Int × AVal)} (h : AllT em) : ∀ k, AllT (noteN p em k)
  | 0 => h
  | k + 1 => by
    rw [show Go.Proofs.Ytgbpjbpdpgbngaa.noteN p em (k + 1) = if k > 0 then mapSet (Go.Proofs.Ytgbpjbpdpgbngaa.noteN p em k) (p.off + (total (p.fs.take k) : Int)) trueV else Go.Proofs.Ytgbpjbpdpgbngaa.noteN p em k from rfl]
    split
    · exact (AllT.noteN h k).set
    · exact AllT.noteN h k
theorem AllT.noteM {p : Pk} {ends : Bool} {em : List (Int × AVal)} (h : AllT em) : AllT (noteM p ends em) := by
  have h1 : AllT (note1 p em) := by
    unfold note1
    split
    · exact h
    · split
      · exact h.set
      · exact h
  unfold Go.Proofs.Ytgbpjbpdpgbngaa.noteM
  split
  · exact h1.noteN _
  · split
    · exact (h1.noteN _).set
    · exact h1.noteN _
/-- The fields so far, and where the next one begins. -/
def takeN (D : List UInt8) (em : List (Int × AVal)) (e : Int) : Nat → List (List UInt8) × Nat
  | 0 => ([], 0)
  | k + 1 => if ((k : Int) + 1 = e ∨ hasE em ((k : Int) + 1) = true) then ((takeN D em e k).1 ++ [(D.take (k + 1)).drop (takeN D em e k).2], k + 1) else takeN D em e k
theorem takeN_le (D : List UInt8) (em : List (Int × AVal)) (e : Int) : ∀ k, (takeN D em e k).2 ≤ k ∧ (takeN D em e k).1.length ≤ k
  | 0 => ⟨Nat.le_refl _, Nat.le_refl _⟩
  | k + 1 => by
    obtain ⟨h1, h2⟩ := takeN_le D em e k
    unfold takeN
    split
    · refine ⟨Nat.le_refl _, ?_⟩
      rw [List.length_append, List.length_singleton]; omega
    · exact ⟨by omega, by omega⟩

section
variable {σb σ : AHeap} {ib im ip is ig : Nat} {e fi : Int} {l : List Sp} {tk : Tok} {v : AVal} {D : List UInt8} {em es : List (Int × AVal)} {E G : List HE}
theorem buTakeNone (b1 : σ ib = some (.cells (buC im))) (b2 : σ im = some (.map es)) (sn : Int) (he : es.find? (fun e => e.1 == sn) = none) :
    ACalls Try.prog i_rxbuf_Buffer_Take [.ptr ib 0, i64v sn] σ fun r σ' => r = .tup [i64v 0, .slice 1 [] .full, i64v 4] ∧ σ' = σ := by
  refine k_rxbuf_Buffer_Take rfl ?_
  have H := Hp.nil σ
  (refine wX ?_)
  refine acall (buNone b1 b2 sn he) ?_
  rintro _ σ_ ⟨rfl, e_⟩
  obtain rfl := e_.symm
  refine ⟨?_, Ext.refl _⟩
  (refine wX ?_)
  skip
  exact aret (VLe.refl _) H.sub ⟨rfl, rfl⟩
theorem buTakeShort (b1 : σ ib = some (.cells (buC im))) (b2 : σ im = some (.map es)) (sn : Int) (he : es.find? (fun e => e.1 == sn) = some (sn, .ptr ip 0)) (b3 : σ ip = some (.cells (peC v is e ig fi))) (b4 : σ is = some (.cells [spL tk l])) (hs : SOk l) (hw : wholeV l e = false) :
    ACalls Try.prog i_rxbuf_Buffer_Take [.ptr ib 0, i64v sn] σ fun r σ' => r = .tup [i64v 0, .slice 1 [] .full, i64v 8] ∧ σ' = σ := by
  refine k_rxbuf_Buffer_Take rfl ?_
  have H := Hp.nil σ
  (refine wX ?_)
  refine acall (buFind b1 b2 sn he) ?_
  rintro _ σ_ ⟨rfl, e_⟩
  obtain rfl := e_.symm
  refine ⟨?_, Ext.refl _⟩
  (refine wX ?_)
  skip
  refine acall (peWhole b3 b4 hs.mid) ?_
  rintro _ σ_ ⟨rfl, e_⟩
  obtain rfl := e_.symm
  refine ⟨?_, Ext.refl _⟩
  (refine wX ?_)
  rw [hw]
  (refine wX ?_)
  skip
  exact aret (VLe.refl _) H.sub ⟨rfl, rfl⟩
set_option maxHeartbeats 4000000 in
theorem buTake (h : RB v D E) (H : Hp σb (.o ib (.cells (buC im)) :: .o im (.map es) :: .o ip (.cells (peC v is e ig fi)) :: .o is (.cells [spL tk l]) :: .o ig (.map em) :: (E ++ G)) σ) (sn : Int) (he : es.find? (fun e => e.1 == sn) = some (sn, .ptr ip 0)) (hs : SOk l) (hw : wholeV l e = true)
    (hD : e ≤ D.length) (hD2 : D.length ≤ 1000000) (hem : AllT em) :
    ACalls Try.prog i_rxbuf_Buffer_Take [.ptr ib 0, i64v sn] σ fun r σ' => r = .tup [i64v fi, lists .none (takeN D em e e.toNat).1, i64v 0] ∧ Hp σb (.o ib (.cells (buC im)) :: .o im (.map (mapDel es sn)) :: .o ip (.cells (peC v is e ig fi)) :: .o is (.cells [spL tk l]) :: .o ig (.map em) :: (E ++ G)) σ' := by
  have he0 : 0 < e := by
    unfold wholeV at hw
    simp at hw
    omega
  cases h with
  | nil => simp at hD; omega
  | row r _ hDn =>
  replace H : Hp σb (.o ib (.cells (buC im)) :: .o im (.map es) :: .o ip (.cells (peC (.ms r 1 0 D.length) is e ig fi)) :: .o is (.cells [spL tk l]) :: .o ig (.map em) :: .o r (.cells (D.map byteV)) :: G) σ := H
  refine k_rxbuf_Buffer_Take rfl ?_
  (refine wX ?_)
  refine acall (buFind (H.get (k := 0) rfl) (H.get (k := 1) rfl) sn he) ?_
  rintro _ σ_ ⟨rfl, e_⟩
  obtain rfl := e_.symm
  refine ⟨?_, Ext.refl _⟩
  (refine wX ?_)
  skip
  refine acall (peWhole (H.get (k := 2) rfl) (H.get (k := 3) rfl) hs.mid) ?_
  rintro _ σ_ ⟨rfl, e_⟩
  obtain rfl := e_.symm
  refine ⟨?_, Ext.refl _⟩
  (refine wX ?_)
  rw [hw]
  (refine wX ?_)
  skip
  replace H := H.cons_full
  refine aloop (α := Nat × Tok × AHeap) (fun y => [(s11, i64v ((y.1 : Int) + 1)), (s10, i64v (takeN D em e y.1).2), (s9, lists y.2.1 (takeN D em e y.1).1)]) (fun y => y.2.2)
    (fun y => (y.1 : Int) ≤ e ∧ Hp σb (.t y.2.1 :: .o ib (.cells (buC im)) :: .o im (.map es) :: .o ip (.cells (peC (.ms r 1 0 D.length) is e ig fi)) :: .o is (.cells [spL tk l]) :: .o ig (.map em) :: .o r (.cells (D.map byteV)) :: G) y.2.2) (fun y => e.toNat + 1 - y.1)
    (0, .full, σ) ⟨by omega, H⟩ (Sub.refl _) ?_ ?_
  · (refine wX ?_)
    exact elX
  clear H
  rintro ⟨k, tk1, τ⟩ ⟨hk, H⟩
  dsimp only at hk H ⊢
  obtain ⟨hf, ho⟩ := takeN_le D em e k
  have hst : takeN D em e (k + 1) = if ((k : Int) + 1 = e ∨ hasE em ((k : Int) + 1) = true) then ((takeN D em e k).1 ++ [(D.take (k + 1)).drop (takeN D em e k).2], k + 1) else takeN D em e k := rfl
  (refine wX ?_)
  (repeat (((apply zL H; (· repeat first | exact .h | apply AtK.t); (· rfl))); (refine wX ?_)))
  by_cases hlt : (k : Int) + 1 ≤ e
  · (repeat ((first | refine zY (by omega) ?_ | (apply zL H; (· repeat first | exact .h | apply AtK.t); (· rfl))); (refine wX ?_)))
    by_cases hke : (k : Int) + 1 = e
    · have hs1 : takeN D em e (k + 1) = ((takeN D em e k).1 ++ [(D.take (k + 1)).drop (takeN D em e k).2], k + 1) := by rw [hst, if_pos (.inl hke)]
      (repeat ((first | refine zY (by omega) ?_ | (apply zL H; (· repeat first | exact .h | apply AtK.t); (· rfl))); (refine wX ?_)))
      refine acut (by omega) (by omega) (by omega) ?_
      (refine wX ?_)
      refine acutm (b := D) ⟨D, H.get (k := 6) rfl, by omega, by simp⟩ (by omega) (by omega) fun w hw2 => ?_
      rw [show ((k : Int) + 1).toNat = k + 1 by omega, Int.toNat_natCast] at hw2
      (refine wX ?_)
      refine acall_less (CloneS w _ τ hw2 (by rw [List.length_drop, List.length_take]; omega)) ?_
      rintro _ σ4 ⟨tk3, ho3, rfl⟩
      refine ⟨sl .none ((D.take (k + 1)).drop (takeN D em e k).2), τ, VLe.slice _ _ _, ho3.sub, ?_, Ext.refl _⟩
      (refine wX ?_)
      apply zP H
      · (repeat first | exact .h | apply AtK.t)
      · exact (by rw [List.length_map]; show (_ + 1) * 24 ≤ _; omega)
      intro tk2
      (conv => whnf)
      clear H
      intro τ H
      (refine wX ?_)
      rw [show (takeN D em e k).1.map (sl .none) ++ [sl .none ((D.take (k + 1)).drop (takeN D em e k).2)] = (takeN D em e (k + 1)).1.map (sl .none) by rw [hs1]; simp]
      (repeat ((refine zI (by omega) ?_); (refine wX ?_)))
      refine ⟨(k + 1, tk2, τ), ⟨by dsimp only; omega, H⟩, by dsimp only; omega, Sub.refl _, ?_⟩
      rw [show (((k + 1 : Nat) : Int)) = (k : Int) + 1 by omega]
      (refine wX ?_)
      rw [show (takeN D em e (k + 1)).2 = k + 1 by rw [hs1]]
      exact elX
    · (repeat ((first | refine zN (by omega) ?_ | (apply zL H; (· repeat first | exact .h | apply AtK.t); (· rfl))); (refine wX ?_)))
      refine hlook H (k := 5) rfl ?_
      rw [look_edge hem]
      rcases (show hasE em ((k : Int) + 1) = false ∨ hasE em ((k : Int) + 1) = true by cases hasE em ((k : Int) + 1) <;> simp) with hh | hh
      · have hs1 : takeN D em e (k + 1) = takeN D em e k := by rw [hst, if_neg (by rw [hh]; simp [hke])]
        rw [hh]
        (refine wX ?_)
        (repeat ((refine zI (by omega) ?_); (refine wX ?_)))
        refine ⟨(k + 1, tk1, τ), ⟨by dsimp only; omega, H⟩, by dsimp only; omega, Sub.refl _, ?_⟩
        rw [show (((k + 1 : Nat) : Int)) = (k : Int) + 1 by omega]
        (refine wX ?_)
        rw [hs1]
        exact elX
      · have hs1 : takeN D em e (k + 1) = ((takeN D em e k).1 ++ [(D.take (k + 1)).drop (takeN D em e k).2], k + 1) := by rw [hst, if_pos (.inr hh)]
        rw [hh]
        (refine wX ?_)
        (repeat (((apply zL H; (· repeat first | exact .h | apply AtK.t); (· rfl))); (refine wX ?_)))
        refine acut (by omega) (by omega) (by omega) ?_
        (refine wX ?_)
        refine acutm (b := D) ⟨D, H.get (k := 6) rfl, by omega, by simp⟩ (by omega) (by omega) fun w hw2 => ?_
        rw [show ((k : Int) + 1).toNat = k + 1 by omega, Int.toNat_natCast] at hw2
        (refine wX ?_)
        refine acall_less (CloneS w _ τ hw2 (by rw [List.length_drop, List.length_take]; omega)) ?_
        rintro _ σ4 ⟨tk3, ho3, rfl⟩
        refine ⟨sl .none ((D.take (k + 1)).drop (takeN D em e k).2), τ, VLe.slice _ _ _, ho3.sub, ?_, Ext.refl _⟩
        (refine wX ?_)
        apply zP H
        · (repeat first | exact .h | apply AtK.t)
        · exact (by rw [List.length_map]; show (_ + 1) * 24 ≤ _; omega)
        intro tk2
        (conv => whnf)
        clear H
        intro τ H
        (refine wX ?_)
        rw [show (takeN D em e k).1.map (sl .none) ++ [sl .none ((D.take (k + 1)).drop (takeN D em e k).2)] = (takeN D em e (k + 1)).1.map (sl .none) by rw [hs1]; simp]
        (repeat ((refine zI (by omega) ?_); (refine wX ?_)))
        refine ⟨(k + 1, tk2, τ), ⟨by dsimp only; omega, H⟩, by dsimp only; omega, Sub.refl _, ?_⟩
        rw [show (((k + 1 : Nat) : Int)) = (k : Int) + 1 by omega]
        (refine wX ?_)
        rw [show (takeN D em e (k + 1)).2 = k + 1 by rw [hs1]]
        exact elX
  · obtain rfl : k = e.toNat := by omega
    (repeat ((first | refine zN (by omega) ?_ | (apply zL H; (· repeat first | exact .h | apply AtK.t); (· rfl))); (refine wX ?_)))
    apply zMd H
    · (repeat first | exact .h | apply AtK.t)
    (conv => whnf)
    clear H
    intro τ H
    (refine wX ?_)
    (repeat (((apply zL H; (· repeat first | exact .h | apply AtK.t); (· rfl))); (refine wX ?_)))
    refine aret (VLe.tup (VLe.cons (VLe.refl _) (VLe.cons (VLe.slice _ _ _) (fun _ _ h => h)))) (Sub.refl _) ⟨rfl, H.tail⟩
end
end Go.Proofs.Ytgbpjbpdpgbngaa
/-
  What came in parts: how many bytes are there.
-/
namespace Go.Proofs.Ytgbpjbpdpgbngaa
open Go Go.Am

/-- What is there, of each piece. -/
structure KeptB (σ : AHeap) (es : List (Int × AVal)) (dl : Int → List Sp) : Prop where
  at_ : ∀ e ∈ es, ∃ ip v is ed ig fi tk, e.2 = .ptr ip 0 ∧ σ ip = some (.cells (peC v is ed ig fi)) ∧ σ is = some (.cells [spL tk (dl e.1)]) ∧ SOk (dl e.1)
set_option maxRecDepth 20000 in
theorem buBytes {σ : AHeap} {ib im : Nat} {es : List (Int × AVal)} {dl : Int → List Sp} (b1 : σ ib = some (.cells (buC im))) (b2 : σ im = some (.map es)) (hn : es.length ≤ 100000) (hw : ∀ e ∈ es, inR e.1) (hk : KeptB σ es dl) :
    ACalls Try.prog i_rxbuf_Buffer_Bytes [.ptr ib 0] σ fun v σ' => v = i64v (dueSum dl (es.map (·.1))) ∧ σ' = σ := by
  refine k_rxbuf_Buffer_Bytes rfl ?_
  have H := Hp.nil σ
  (refine wX ?_)
  refine acall (buNumbers b1 b2 (by omega) hw) ?_
  rintro _ σ_ ⟨rfl, e_⟩
  obtain rfl := e_.symm
  refine ⟨?_, Ext.refl _⟩
  (refine wX ?_)
  obtain ⟨ks, hks⟩ : ∃ ks, ks = sortI (es.map (·.1)) := ⟨_, rfl⟩
  have hp : ks.Perm (es.map (·.1)) := hks ▸ sortI_perm _
  have hl : ks.length = es.length := by rw [hp.length_eq, List.length_map]
  rw [← hks, ← dueSum_perm hp]
  clear hks
  have hall : ∀ k ∈ ks, 0 ≤ cntL (dl k) ∧ cntL (dl k) ≤ 65536 := fun k hk' => by
    obtain ⟨e, he, _, rfl⟩ := find_key (hp.mem_iff.1 hk')
    obtain ⟨_, _, _, _, _, _, _, _, _, _, h⟩ := hk.at_ e he
    exact cntL_bound h
  (refine wX ?_)
  refine aloop (α := Nat × Int) (fun y => [(s9, i64v y.1), (s3, i64v y.2)]) (fun _ => σ) (fun y => y.1 ≤ ks.length ∧ y.2 = dueSum dl (ks.take y.1) ∧ 0 ≤ y.2 ∧ y.2 ≤ 65536 * (y.1 : Int)) (fun y => ks.length - y.1)
    (0, 0) ⟨Nat.zero_le _, rfl, by omega, by omega⟩ (Sub.refl _) ?_ ?_
  · (refine wX ?_)
    exact elX
  rintro ⟨i, n⟩ ⟨hi, he, h0, h1⟩
  dsimp only at hi he h0 h1 ⊢
  (refine wX ?_)
  rw [List.length_map]
  by_cases h : i < ks.length
  · (repeat ((refine zY (by omega) ?_); (refine wX ?_)))
    refine aget (by omega) (get_ints' h) ?_
    (refine wX ?_)
    refine acell rfl ?_
    (refine wX ?_)
    obtain ⟨e, hem, hf, hek⟩ := find_key (hp.mem_iff.1 (List.getElem_mem h))
    obtain ⟨ip, v, is, ed, ig, fi, tk, g1, g2, g3, g4⟩ := hk.at_ e hem
    have hb := hall ks[i] (List.getElem_mem h)
    (repeat ((refine zB H b1 rfl ?_); (refine wX ?_)))
    refine hlookB H b2 ?_
    rw [hf]
    obtain ⟨ek, ev⟩ := e
    dsimp only at hek g1 g3 g4
    subst g1
    (refine wX ?_)
    refine zB H g2 rfl ?_
    (refine wX ?_)
    refine acall (sCount g3 g4.mid g4.mem) ?_
    rintro _ σ_ ⟨rfl, e_⟩
    obtain rfl := e_.symm
    refine ⟨?_, Ext.refl _⟩
    (refine wX ?_)
    rw [hek]
    (repeat ((refine zI (by omega) ?_); (refine wX ?_)))
    refine ⟨(i + 1, n + cntL (dl ks[i])), ⟨h, ?_, ?_, ?_⟩, by dsimp only; omega, Sub.refl _, ?_⟩
    · dsimp only; rw [dueSum_take h, he]
    · dsimp only; omega
    · dsimp only; omega
    · (refine wX ?_)
      exact elX
  · obtain rfl : i = ks.length := by omega
    rw [List.take_length] at he
    (repeat ((refine zN (by omega) ?_); (refine wX ?_)))
    exact aret (VLe.refl _) H.sub ⟨by rw [he], rfl⟩
end Go.Proofs.Ytgbpjbpdpgbngaa
/-
  What came in parts: a buffer, whatever pieces it has.
-/
namespace Go.Proofs.Ytgbpjbpdpgbngaa
set_option maxRecDepth 20000
open Go Go.Am

/-- A piece: its number, its bytes, what is there, its end, where fields begin, its FI. -/
structure PV where
  sn : Int
  D : List UInt8
  l : List Sp
  e : Int
  em : List (Int × AVal)
  fi : Int
structure PV.Ok (x : PV) : Prop where
  so : SOk x.l
  inD : ∀ y ∈ x.l, y.2 ≤ (x.D.length : Int)
  dl : x.D.length ≤ 4000
  em : AllT x.em
  sn : inR x.sn
/-- A piece in the heap. -/
structure PX where
  pv : PV
  ip : Nat
  is : Nat
  ig : Nat
  v : AVal
  E : List HE
  tk : Tok
abbrev PX.hd (x : PX) : List HE := [.o x.ip (.cells (peC x.v x.is x.pv.e x.ig x.pv.fi)), .o x.is (.cells [spL x.tk x.pv.l]), .o x.ig (.map x.pv.em)]
def flatX : List PX → List HE
  | [] => []
  | x :: X => x.hd ++ (x.E ++ flatX X)
theorem flatX_append : ∀ (A B : List PX), flatX (A ++ B) = flatX A ++ flatX B
  | [], B => rfl
  | x :: A, B => by
    show x.hd ++ (x.E ++ flatX (A ++ B)) = (x.hd ++ (x.E ++ flatX A)) ++ flatX B
    rw [flatX_append A B, List.append_assoc, List.append_assoc]
abbrev esX (X : List PX) : List (Int × AVal) := X.map fun x => (x.pv.sn, .ptr x.ip 0)
abbrev XL (ib im : Nat) (X : List PX) (G : List HE) : List HE := .o ib (.cells (buC im)) :: .o im (.map (esX X)) :: (flatX X ++ G)
structure XOk (X : List PX) : Prop where
  nd : (X.map (·.pv.sn)).Nodup
  ok : ∀ x ∈ X, x.pv.Ok
  rb : ∀ x ∈ X, RB x.v x.pv.D x.E
  len : X.length ≤ 10000
def findS (S : List PV) (sn : Int) : Option PV := S.find? fun x => x.sn == sn
def lS (S : List PV) (sn : Int) : List Sp := match findS S sn with
  | some x => x.l
  | none => []
def eS (S : List PV) (sn : Int) : Int := match findS S sn with
  | some x => x.e
  | none => -1
def wholeS (S : List PV) (sn : Int) : Bool := match findS S sn with
  | some x => wholeV x.l x.e
  | none => false
def bytesS (S : List PV) : Int := (S.map fun x => cntL x.l).sum
def updV (x : PV) (p : Pk) : PV := ⟨x.sn, fillB x.l p.off.toNat p.fs.flatten x.D, addS (spanP p) x.l, noteE p (endsB p) x.e, noteM p (endsB p) x.em, noteF p (endsB p) x.fi⟩
def freshV (sn : Int) : PV := ⟨sn, [], [], -1, [], 0⟩
def putS (S : List PV) (p : Pk) : Int := putK p (lS S p.sn) (eS S p.sn)
def putV (S : List PV) (p : Pk) : List PV :=
  if putS S p ≠ 0 then S else match findS S p.sn with
    | some _ => S.map fun x => if x.sn = p.sn then updV x p else x
    | none => S ++ [updV (freshV p.sn) p]
abbrev pvs (X : List PX) : List PV := X.map (·.pv)

theorem findX {X : List PX} (hnd : (X.map (·.pv.sn)).Nodup) (sn : Int) :
    (∃ A x B, X = A ++ x :: B ∧ x.pv.sn = sn ∧ (esX X).find? (fun e => e.1 == sn) = some (sn, .ptr x.ip 0) ∧ findS (pvs X) sn = some x.pv ∧ (∀ y ∈ A, y.pv.sn ≠ sn) ∧ (∀ y ∈ B, y.pv.sn ≠ sn)) ∨
    ((∀ x ∈ X, x.pv.sn ≠ sn) ∧ (esX X).find? (fun e => e.1 == sn) = none ∧ findS (pvs X) sn = none) := by
  induction X with
  | nil => exact .inr ⟨nofun, rfl, rfl⟩
  | cons a X ih =>
    rw [List.map_cons, List.nodup_cons] at hnd
    by_cases h : a.pv.sn = sn
    · refine .inl ⟨[], a, X, rfl, h, ?_, ?_, nofun, fun y hy e => hnd.1 (by rw [h, ← e]; exact List.mem_map_of_mem (f := fun x : PX => x.pv.sn) hy)⟩
      · show List.find? _ ((a.pv.sn, AVal.ptr a.ip 0) :: esX X) = _
        rw [List.find?_cons]; simp [h]
      · show List.find? _ (a.pv :: pvs X) = _
        rw [List.find?_cons]; simp [h]
    · have hb : (a.pv.sn == sn) = false := by simp [h]
      have q1 : (esX (a :: X)).find? (fun e => e.1 == sn) = (esX X).find? (fun e => e.1 == sn) := by
        show List.find? _ ((a.pv.sn, AVal.ptr a.ip 0) :: esX X) = _
        rw [List.find?_cons]; dsimp only; rw [hb]
      have q2 : findS (pvs (a :: X)) sn = findS (pvs X) sn := by
        show List.find? _ (a.pv :: pvs X) = _
        rw [List.find?_cons, hb]; rfl
      rw [q1, q2]
      rcases ih hnd.2 with ⟨A, x, B, rfl, h1, h2, h3, h4, h5⟩ | ⟨h1, h2, h3⟩
      · refine .inl ⟨a :: A, x, B, rfl, h1, h2, h3, fun y hy => ?_, h5⟩
        rcases List.mem_cons.1 hy with rfl | hy
        · exact h
        · exact h4 y hy
      · refine .inr ⟨fun y hy => ?_, h2, h3⟩
        rcases List.mem_cons.1 hy with rfl | hy
        · exact h
        · exact h1 y hy
section
variable {σb σ : AHeap} {ib im : Nat} {X A B : List PX} {x : PX} {G : List HE} {o1 o2 : HE}
theorem XL.outX (H : Hp σb (o1 :: o2 :: (flatX (A ++ x :: B) ++ G)) σ) : Hp σb (x.hd ++ (o1 :: o2 :: (x.E ++ (flatX A ++ (flatX B ++ G))))) σ := by
  rw [flatX_append, show flatX (x :: B) = x.hd ++ (x.E ++ flatX B) from rfl, List.append_assoc, List.append_assoc, List.append_assoc] at H
  have H := Hp.mid2 (A := [o1, o2]) (B := flatX A) (C := x.hd) H
  have H := Hp.mid2 (A := [o1, o2] ++ x.hd) (B := flatX A) (C := x.E) (D := flatX B ++ G) (by rw [List.append_assoc]; exact H)
  rw [List.append_assoc] at H
  exact Hp.mid (A := [o1, o2]) (B := x.hd) H
theorem XL.backX (H : Hp σb (x.hd ++ (o1 :: o2 :: (x.E ++ (flatX A ++ (flatX B ++ G))))) σ) : Hp σb (o1 :: o2 :: (flatX (A ++ x :: B) ++ G)) σ := by
  rw [flatX_append, show flatX (x :: B) = x.hd ++ (x.E ++ flatX B) from rfl, List.append_assoc, List.append_assoc, List.append_assoc]
  have H := Hp.mid (A := x.hd) (B := [o1, o2]) H
  have H := Hp.mid2 (A := [o1, o2] ++ x.hd) (B := x.E) (C := flatX A) (D := flatX B ++ G) (by rw [List.append_assoc]; exact H)
  rw [List.append_assoc] at H
  exact Hp.mid2 (A := [o1, o2]) (B := x.hd) (C := flatX A) H
theorem XL.at_ (H : Hp σb (XL ib im X G) σ) (hx : x ∈ X) : σ x.ip = some (.cells (peC x.v x.is x.pv.e x.ig x.pv.fi)) ∧ σ x.is = some (.cells [spL x.tk x.pv.l]) := by
  obtain ⟨A, B, rfl⟩ := List.append_of_mem hx
  have K := XL.outX H
  exact ⟨K.get (k := 0) rfl, K.get (k := 1) rfl⟩
theorem lS_of {x : PX} (ok : XOk X) (hx : x ∈ X) : lS (pvs X) x.pv.sn = x.pv.l := by
  unfold lS
  rcases findX ok.nd x.pv.sn with ⟨A, y, B, hX, h1, h2, h3, h4, h5⟩ | ⟨h1, _⟩
  · rw [h3]
    rw [hX] at hx
    rcases List.mem_append.1 hx with hx | hx
    · exact absurd rfl (h4 x hx)
    · rcases List.mem_cons.1 hx with rfl | hx
      · rfl
      · exact absurd rfl (h5 x hx)
  · exact absurd rfl (h1 x hx)
theorem xBytes (H : Hp σb (XL ib im X G) σ) (ok : XOk X) : ACalls Try.prog i_rxbuf_Buffer_Bytes [.ptr ib 0] σ fun v σ' => v = i64v (bytesS (pvs X)) ∧ σ' = σ := by
  have := buBytes (dl := lS (pvs X)) (H.get (k := 0) rfl) (H.get (k := 1) rfl) (by rw [List.length_map]; have := ok.len; omega) (fun e he => by obtain ⟨x, hx, rfl⟩ := List.mem_map.1 he; exact (ok.ok x hx).sn)
    ⟨fun e he => by
      obtain ⟨x, hx, rfl⟩ := List.mem_map.1 he
      obtain ⟨g1, g2⟩ := XL.at_ H hx
      exact ⟨x.ip, x.v, x.is, x.pv.e, x.ig, x.pv.fi, x.tk, rfl, g1, by rw [lS_of ok hx]; exact g2, by rw [lS_of ok hx]; exact (ok.ok x hx).so⟩⟩
  have e : dueSum (lS (pvs X)) ((esX X).map (·.1)) = bytesS (pvs X) := by
    unfold dueSum bytesS
    rw [List.map_map, List.map_map, List.map_map]
    congr 1
    refine List.map_congr_left fun x hx => ?_
    show cntL (lS (pvs X) x.pv.sn) = cntL x.pv.l
    rw [lS_of ok hx]
  rw [e] at this
  exact this
end
end Go.Proofs.Ytgbpjbpdpgbngaa
/-
  What came in parts: what Put and Take do with a buffer, whatever pieces it has.
-/
namespace Go.Proofs.Ytgbpjbpdpgbngaa
set_option maxRecDepth 20000
open Go Go.Am

theorem putK_zero {p : Pk} {l : List Sp} {e : Int} (h : putK p l e = 0) : rightB p = true ∧ fitsC l e (spanP p) (endsB p) = 0 ∧ addC (spanP p) l = 0 := by
  unfold putK at h
  split at h
  · cases h
  · rename_i hr
    have hr : rightB p = true := by simpa using hr
    split at h
    · rename_i hc; exact absurd h hc
    · rename_i hc
      exact ⟨hr, Decidable.byContradiction hc, h⟩
theorem PV.Ok.upd {x : PV} (h : x.Ok) {p : Pk} (hk : putK p x.l x.e = 0) : (updV x p).Ok := by
  obtain ⟨hr, hc, ha⟩ := putK_zero hk
  obtain ⟨g1, g2, g3, g4, g5, g6, g7, g8, g9⟩ := right_ok hr
  have htl : p.fs.flatten.length = total p.fs := rfl
  have hlen : (fillB x.l p.off.toNat p.fs.flatten x.D).length = max x.D.length (p.off.toNat + p.fs.flatten.length) := fillB_len _ _ _ _
  have hdl := h.dl
  refine ⟨h.so.add _, fun y hy => ?_, ?_, h.em.noteM, h.sn⟩
  · have hn := (h.so.add (spanP p)).n.mem hy
    have hp : hasP (addS (spanP p) x.l) (y.2 - 1) := ⟨y, hy, by omega, by omega⟩
    show y.2 ≤ ((fillB x.l p.off.toNat p.fs.flatten x.D).length : Int)
    rw [hlen]
    rcases (add_has h.so ha _).1 hp with ⟨z, hz, h1, h2⟩ | ⟨h1, h2⟩
    · have := h.inD z hz; omega
    · unfold spanP at h2; dsimp only at h2; omega
  · show (fillB x.l p.off.toNat p.fs.flatten x.D).length ≤ 4000
    rw [hlen]; omega
theorem PV.Ok.fresh {sn : Int} (h : inR sn) : (freshV sn).Ok := ⟨SOk.nil, nofun, by simp [freshV], nofun, h⟩
theorem map_upd {A B : List PV} {x : PV} {p : Pk} (hx : x.sn = p.sn) (hA : ∀ y ∈ A, y.sn ≠ p.sn) (hB : ∀ y ∈ B, y.sn ≠ p.sn) :
    (A ++ x :: B).map (fun x => if x.sn = p.sn then updV x p else x) = A ++ updV x p :: B := by
  have id_ : ∀ (L : List PV), (∀ y ∈ L, y.sn ≠ p.sn) → L.map (fun x => if x.sn = p.sn then updV x p else x) = L := by
    intro L hL
    induction L with
    | nil => rfl
    | cons a L ih => rw [List.map_cons, if_neg (hL a (List.mem_cons_self ..)), ih fun y hy => hL y (List.mem_cons_of_mem _ hy)]
  rw [List.map_append, List.map_cons, if_pos hx, id_ A hA, id_ B hB]
section
variable {σb σ : AHeap} {ib im : Nat} {X A B : List PX} {x : PX} {G : List HE}
theorem XOk.swap {x' : PX} (ok : XOk (A ++ x :: B)) (hs : x'.pv.sn = x.pv.sn) (h1 : x'.pv.Ok) (h2 : RB x'.v x'.pv.D x'.E) : XOk (A ++ x' :: B) := by
  refine ⟨?_, fun y hy => ?_, fun y hy => ?_, ?_⟩
  · have := ok.nd
    rw [List.map_append, List.map_cons] at this ⊢
    rw [hs]; exact this
  · rcases List.mem_append.1 hy with hy | hy
    · exact ok.ok y (by simp [hy])
    · rcases List.mem_cons.1 hy with rfl | hy
      · exact h1
      · exact ok.ok y (by simp [hy])
  · rcases List.mem_append.1 hy with hy | hy
    · exact ok.rb y (by simp [hy])
    · rcases List.mem_cons.1 hy with rfl | hy
      · exact h2
      · exact ok.rb y (by simp [hy])
  · have := ok.len
    simp at this ⊢; exact this
theorem xPut (H : Hp σb (XL ib im X G) σ) (ok : XOk X) (hlen : X.length < 10000) (p : Pk) (hl : p.fs.length ≤ 1000) (ht : total p.fs ≤ 1000000) (hsn : inR p.sn) :
    ACalls Try.prog i_rxbuf_Buffer_Put [.ptr ib 0, amV p] σ fun r σ' => r = i64v (putS (pvs X) p) ∧ ∃ X', Hp σb (XL ib im X' G) σ' ∧ pvs X' = putV (pvs X) p ∧ XOk X' ∧ X'.length ≤ X.length + 1 := by
  rcases findX ok.nd p.sn with ⟨A, x, B, hX, h1, h2, h3, h4, h5⟩ | ⟨h1, h2, h3⟩
  · have hx : x ∈ X := by rw [hX]; simp
    have hxo := ok.ok x hx
    have hdl := hxo.dl
    have hS : putS (pvs X) p = putK p x.pv.l x.pv.e := by unfold putS lS eS; rw [h3]
    have hV : putV (pvs X) p = if putK p x.pv.l x.pv.e ≠ 0 then pvs X else (pvs X).map fun x => if x.sn = p.sn then updV x p else x := by unfold putV; rw [hS, h3]
    rw [hS, hV]
    subst hX
    refine acall_less (buPutOld (ok.rb x hx) (XL.outX H) p h2 hxo.so (by omega) hl ht) ?_
    rintro _ σ' ⟨rfl, ⟨hk, u, K⟩ | ⟨hk, v2, E2, u, hr, K⟩⟩
    · refine ⟨_, _, VLe.refl _, Sub.refl _, rfl, A ++ { x with tk := u } :: B, ?_, ?_, ok.swap rfl hxo (ok.rb x hx), by simp⟩
      · have e : esX (A ++ { x with tk := u } :: B) = esX (A ++ x :: B) := by simp [esX]
        show Hp σb (.o ib (.cells (buC im)) :: .o im (.map (esX (A ++ { x with tk := u } :: B))) :: (flatX (A ++ { x with tk := u } :: B) ++ G)) σ'
        rw [e]
        exact XL.backX (x := { x with tk := u }) K
      · rw [if_pos hk]; simp [pvs]
    · have hpo := PV.Ok.upd hxo hk
      let x' : PX := ⟨updV x.pv p, x.ip, x.is, x.ig, v2, E2, u⟩
      refine ⟨_, _, VLe.refl _, Sub.refl _, rfl, A ++ x' :: B, ?_, ?_, ok.swap rfl hpo hr, by simp⟩
      · have e : esX (A ++ x' :: B) = esX (A ++ x :: B) := by simp [esX, x', updV]
        show Hp σb (.o ib (.cells (buC im)) :: .o im (.map (esX (A ++ x' :: B))) :: (flatX (A ++ x' :: B) ++ G)) σ'
        rw [e]
        exact XL.backX (x := x') K
      · rw [if_neg (by simpa using hk)]
        show (A ++ x' :: B).map (·.pv) = ((A ++ x :: B).map (·.pv)).map _
        rw [List.map_append, List.map_append, List.map_cons, List.map_cons]
        refine (map_upd h1 (fun y hy => ?_) (fun y hy => ?_)).symm
        · obtain ⟨z, hz, rfl⟩ := List.mem_map.1 hy; exact h4 z hz
        · obtain ⟨z, hz, rfl⟩ := List.mem_map.1 hy; exact h5 z hz
  · have hS : putS (pvs X) p = putK p [] (-1) := by unfold putS lS eS; rw [h3]
    have hV : putV (pvs X) p = if putK p [] (-1) ≠ 0 then pvs X else pvs X ++ [updV (freshV p.sn) p] := by unfold putV; rw [hS, h3]
    rw [hS, hV]
    refine acall_less (buPutNew H p h2 hl ht) ?_
    rintro _ σ' ⟨rfl, ⟨hk, K⟩ | ⟨hk, ip, is, ig, v2, E2, u, hr, K⟩⟩
    · exact ⟨_, _, VLe.refl _, Sub.refl _, rfl, X, K, by rw [if_pos hk], ok, by omega⟩
    · have hpo := PV.Ok.upd (PV.Ok.fresh hsn) (p := p) hk
      let x' : PX := ⟨updV (freshV p.sn) p, ip, is, ig, v2, E2, u⟩
      refine ⟨_, _, VLe.refl _, Sub.refl _, rfl, X ++ [x'], ?_, by rw [if_neg (by simpa using hk)]; simp [pvs, x'], ?_, by simp⟩
      · have e : esX (X ++ [x']) = esX X ++ [(p.sn, .ptr ip 0)] := by simp [esX, x', updV, freshV]
        show Hp σb (.o ib (.cells (buC im)) :: .o im (.map (esX (X ++ [x']))) :: (flatX (X ++ [x']) ++ G)) σ'
        rw [e]
        refine XL.backX (A := X) (B := []) (x := x') ?_
        exact Hp.mid2 (A := x'.hd ++ [.o ib (.cells (buC im)), .o im (.map (esX X ++ [(p.sn, .ptr ip 0)]))]) (B := []) (C := E2) (D := flatX X ++ G) K
      · refine ⟨?_, fun y hy => ?_, fun y hy => ?_, ?_⟩
        · rw [List.map_append]
          refine List.nodup_append.2 ⟨ok.nd, by simp, fun a ha b hb e => ?_⟩
          obtain ⟨z, hz, rfl⟩ := List.mem_map.1 ha
          simp [x', updV, freshV] at hb
          exact h1 z hz (by rw [e, hb])
        · rcases List.mem_append.1 hy with hy | hy
          · exact ok.ok y hy
          · rw [List.mem_singleton.1 hy]; exact hpo
        · rcases List.mem_append.1 hy with hy | hy
          · exact ok.rb y hy
          · rw [List.mem_singleton.1 hy]; exact hr
        · simp; omega
/-- What Take leaves. -/
def takeS (S : List PV) (sn : Int) : List PV := if wholeS S sn = true then S.filter fun x => decide (x.sn ≠ sn) else S
def takeC (S : List PV) (sn : Int) : Int := match findS S sn with
  | none => 4
  | some x => if wholeV x.l x.e = true then 0 else 8
def takeF (S : List PV) (sn : Int) : Int × List (List UInt8) := match findS S sn with
  | none => (0, [])
  | some x => if wholeV x.l x.e = true then (x.fi, (takeN x.D x.em x.e x.e.toNat).1) else (0, [])
theorem mapDel_split {A B : List PX} {x : PX} {sn : Int} (hx : x.pv.sn = sn) (hA : ∀ y ∈ A, y.pv.sn ≠ sn) : mapDel (esX (A ++ x :: B)) sn = esX (A ++ B) := by
  induction A with
  | nil => simp [esX, mapDel, hx]
  | cons a A ih =>
    have := ih fun y hy => hA y (List.mem_cons_of_mem _ hy)
    have h0 := hA a (List.mem_cons_self ..)
    simp [esX, mapDel, h0] at this ⊢
    exact this
theorem xTake (H : Hp σb (XL ib im X G) σ) (ok : XOk X) (sn : Int) :
    ACalls Try.prog i_rxbuf_Buffer_Take [.ptr ib 0, i64v sn] σ fun r σ' => r = .tup [i64v (takeF (pvs X) sn).1, lists .none (takeF (pvs X) sn).2, i64v (takeC (pvs X) sn)] ∧ ∃ X', Hp σb (XL ib im X' G) σ' ∧ pvs X' = takeS (pvs X) sn ∧ XOk X' ∧ X'.length ≤ X.length := by
  unfold takeF takeC takeS wholeS
  rcases findX ok.nd sn with ⟨A, x, B, hX, h1, h2, h3, h4, h5⟩ | ⟨h1, h2, h3⟩
  · have hx : x ∈ X := by rw [hX]; simp
    have hxo := ok.ok x hx
    have hdl := hxo.dl
    rw [h3]
    dsimp only
    rcases (show wholeV x.pv.l x.pv.e = false ∨ wholeV x.pv.l x.pv.e = true by cases wholeV x.pv.l x.pv.e <;> simp) with hw | hw
    · rw [if_neg (by rw [hw]; simp), if_neg (by rw [hw]; simp), if_neg (by rw [hw]; simp)]
      obtain ⟨g1, g2⟩ := XL.at_ H hx
      refine acall_less (buTakeShort (H.get (k := 0) rfl) (H.get (k := 1) rfl) sn h2 g1 g2 hxo.so hw) ?_
      rintro _ σ' ⟨rfl, rfl⟩
      exact ⟨_, _, VLe.tup (VLe.cons (VLe.refl _) (VLe.cons (VLe.slice _ _ _) fun _ _ h => h)), Sub.refl _, rfl, X, H, rfl, ok, Nat.le_refl _⟩
    · rw [if_pos hw, if_pos hw, if_pos hw]
      have hD : x.pv.e ≤ (x.pv.D.length : Int) := by
        unfold wholeV hasS at hw
        rw [Bool.and_eq_true, Bool.and_eq_true] at hw
        obtain ⟨y, hy, h⟩ := List.any_eq_true.1 hw.2.2
        have := hxo.inD y hy
        have := of_decide_eq_true h
        dsimp only at this
        omega
      subst hX
      have K := XL.outX H
      replace K : Hp σb (.o ib (.cells (buC im)) :: .o im (.map (esX (A ++ x :: B))) :: (x.hd ++ (x.E ++ (flatX A ++ (flatX B ++ G))))) σ := Hp.mid (A := x.hd) (B := [.o ib (.cells (buC im)), .o im (.map (esX (A ++ x :: B)))]) K
      refine acall_less (buTake (ok.rb x hx) K sn h2 hxo.so hw hD (by omega) hxo.em) ?_
      rintro _ σ' ⟨rfl, K⟩
      rw [mapDel_split h1 h4] at K
      refine ⟨_, _, VLe.refl _, Sub.refl _, rfl, A ++ B, ?_, ?_, ?_, by simp⟩
      · have K := Hp.rest (A := x.hd) (Hp.mid (A := [.o ib (.cells (buC im)), .o im (.map (esX (A ++ B)))]) (B := x.hd) K)
        have K := Hp.rest (A := x.E) (Hp.mid (A := [.o ib (.cells (buC im)), .o im (.map (esX (A ++ B)))]) (B := x.E) K)
        show Hp σb (.o ib (.cells (buC im)) :: .o im (.map (esX (A ++ B))) :: (flatX (A ++ B) ++ G)) σ'
        rw [flatX_append, List.append_assoc]
        exact K
      · show (A ++ B).map (·.pv) = ((A ++ x :: B).map (·.pv)).filter _
        rw [List.map_append, List.map_append, List.map_cons, List.filter_append, List.filter_cons]
        rw [if_neg (by simp [h1])]
        rw [List.filter_eq_self.2, List.filter_eq_self.2]
        · intro y hy; obtain ⟨z, hz, rfl⟩ := List.mem_map.1 hy; exact decide_eq_true (h5 z hz)
        · intro y hy; obtain ⟨z, hz, rfl⟩ := List.mem_map.1 hy; exact decide_eq_true (h4 z hz)
      · refine ⟨?_, fun y hy => ok.ok y ?_, fun y hy => ok.rb y ?_, ?_⟩
        · have := ok.nd
          rw [List.map_append, List.map_cons] at this
          rw [List.map_append]
          exact this.sublist (List.Sublist.append_left (List.sublist_cons_self _ _) _)
        · rcases List.mem_append.1 hy with hy | hy <;> simp [hy]
        · rcases List.mem_append.1 hy with hy | hy <;> simp [hy]
        · have := ok.len
          simp at this ⊢; omega
  · rw [h3]
    dsimp only
    rw [if_neg (by simp)]
    refine acall_less (buTakeNone (H.get (k := 0) rfl) (H.get (k := 1) rfl) sn h2) ?_
    rintro _ σ' ⟨rfl, rfl⟩
    exact ⟨_, _, VLe.tup (VLe.cons (VLe.refl _) (VLe.cons (VLe.slice _ _ _) fun _ _ h => h)), Sub.refl _, rfl, X, H, rfl, ok, Nat.le_refl _⟩
end
end Go.Proofs.Ytgbpjbpdpgbngaa
/-
  Packets that may be, and packets given back or handed on with rights to their rows.
-/
namespace Go.Proofs.Ytgbpjbpdpgbngaa
open Go Go.Am

structure FldsOk (l : List (List UInt8)) (h w : Int) : Prop where
  one : 1 ≤ l.length
  most : l.length ≤ 24
  each : ∀ i, (hi : i < l.length) → 1 ≤ l[i].length ∧ (i + 1 < l.length → l[i].length ≤ 2047)
  fits : h + sizeV ((l.length : Int) - 1) w + (total l : Int) ≤ 4000
theorem fieldsV_ok' {l : List (List UInt8)} {h w : Int} (k : fieldsV l h w > 0) : FldsOk l h w := by
  unfold fieldsV at k
  split at k
  · omega
  · rename_i h1
    split at k
    · omega
    · rename_i h2
      split at k
      · omega
      · rename_i h3
        refine ⟨by omega, by omega, fun i hi => ?_, by omega⟩
        have hb : fieldBad l i = false := Bool.eq_false_iff.2 fun hb => h2 (fieldsBad_of hi hb)
        rw [fieldBad_get hi] at hb
        have := of_decide_eq_false hb
        omega
theorem amSize_ok {p : Pk} {w : Int} (h : amSize p w > 0) : (w = 10 ∨ w = 16) ∧ 0 ≤ p.fi ∧ p.fi ≤ 3 ∧ isNum w p.sn = true ∧ FldsOk p.fs (amHead p.part w) (lenW w) ∧ 0 ≤ p.off ∧ p.off < offTop w ∧ (p.part = false → p.last = false ∧ p.off = 0) := by
  unfold amSize at h
  split at h
  · omega
  · rename_i hb
    have h1 : amWidth w = true := by
      cases e : amWidth w with
      | true => rfl
      | false => exact absurd (.inl (.inl e)) hb
    have h2 : isNum w p.sn = true := by
      cases e : isNum w p.sn with
      | true => rfl
      | false => exact absurd (.inl (.inr (.inr (.inr e)))) hb
    refine ⟨amWidth_iff.1 h1, ?_, ?_, h2, fieldsV_ok' h, ?_, ?_, fun hp => ⟨?_, ?_⟩⟩
    · exact Decidable.byContradiction fun e => hb (.inl (.inr (.inl (by omega))))
    · exact Decidable.byContradiction fun e => hb (.inl (.inr (.inr (.inl (by omega)))))
    · exact Decidable.byContradiction fun e => hb (.inr (.inr (.inl (by omega))))
    · exact Decidable.byContradiction fun e => hb (.inr (.inr (.inr (by omega))))
    · exact Bool.eq_false_iff.2 fun e => hb (.inr (.inl ⟨hp, .inl e⟩))
    · exact Decidable.byContradiction fun e => hb (.inr (.inl ⟨hp, .inr e⟩))
abbrev TB := Tok × List UInt8
abbrev slB (x : TB) : AVal := sl x.1 x.2
theorem RepL.tbs (κ : Ghost) : ∀ {l : List TB} {vs : List Value}, RepL κ ((l.map slB).flatMap AVal.cells) vs → RepL κ (((l.map (·.2)).map (sl .none)).flatMap AVal.cells) vs
  | [], _, h => h
  | a :: l, _, h => by
    have h : RepL κ (slB a :: (l.map slB).flatMap AVal.cells) _ := h
    cases h with
    | cons h1 h2 => exact .cons (VLe.slice _ _ _ κ _ h1) (RepL.tbs κ h2)
theorem VLe.tbs (l : List TB) (t : Tok) : VLe (.slice 1 (l.map slB) t) (lists .none (l.map (·.2))) := fun κ v h => by
  rcases h.slice_inv with ⟨⟨a, rfl⟩, hn⟩ | ⟨b, off, cap, vs, rfl, g2, g3, g4, g5, g6⟩
  · have hn : l = [] := by simpa using hn
    subst hn; exact .nil
  · refine .slice (vs := vs) (by rw [List.length_map, List.length_map, List.length_map]) g2 (fun x hx => ?_) (RepL.tbs κ g4) g5 trivial
    obtain ⟨y, _, rfl⟩ := List.mem_map.1 hx
    rfl
theorem VLe.aggA {xs ys : List AVal} (h : ∀ κ vs, RepL κ xs vs → RepL κ ys vs) : VLe (.agg xs) (.agg ys) := fun κ v k => by
  cases k with
  | agg r => exact .agg (h _ _ r)
/-- A packet that is given back, whatever may be appended to its fields. -/
theorem aret_pkt {a b c d e f : AVal} {l : List TB} {t : Tok} {ys : List AVal} {σ σ2 : AHeap} {Q : AVal → AHeap → Prop} (hs : Sub σ σ2) (h : Q (.tup (.agg [a, b, c, d, e, f, lists .none (l.map (·.2))] :: ys)) σ2) : ARet (.tup (.agg [a, b, c, d, e, f, .slice 1 (l.map slB) t] :: ys)) σ Q :=
  aret (VLe.tup (VLe.cons (VLe.aggA (VLe.cons (VLe.refl _) (VLe.cons (VLe.refl _) (VLe.cons (VLe.refl _) (VLe.cons (VLe.refl _) (VLe.cons (VLe.refl _) (VLe.cons (VLe.refl _) (VLe.cons (VLe.tbs _ _) VLe.nil)))))))) fun _ _ h => h)) hs h
theorem aret_pkt0 {a b c d e f : AVal} {t : Tok} {ys : List AVal} {σ σ2 : AHeap} {Q : AVal → AHeap → Prop} (hs : Sub σ σ2) (h : Q (.tup (.agg [a, b, c, d, e, f, .slice 1 [] .none] :: ys)) σ2) : ARet (.tup (.agg [a, b, c, d, e, f, .slice 1 [] t] :: ys)) σ Q := aret_pkt (l := []) hs h
end Go.Proofs.Ytgbpjbpdpgbngaa
/-
  Fields that are too much for a statement.
-/
namespace Go.Proofs.Ytgbpjbpdpgbngaa
open Go Go.Am

end Go.Proofs.Ytgbpjbpdpgbngaa
/-
  Statements of what came in parts: what must come of fixed calls.
-/
namespace Go.Proofs.Ytgbpjbpdpgbngaa
set_option maxRecDepth 20000
open Go Go.Am

theorem pk_argsX {x a b c d e f : AVal} (l : List TB) (t : Tok) : ∀ κ vs, RepL κ [x, .agg [a, b, c, d, e, f, .slice 1 (l.map slB) t]] vs → RepL κ [x, .agg [a, b, c, d, e, f, lists .none (l.map (·.2))]] vs :=
  VLe.cons (VLe.refl _) (VLe.cons (VLe.aggA (VLe.cons (VLe.refl _) (VLe.cons (VLe.refl _) (VLe.cons (VLe.refl _) (VLe.cons (VLe.refl _) (VLe.cons (VLe.refl _) (VLe.cons (VLe.refl _) (VLe.cons (VLe.tbs _ _) VLe.nil)))))))) VLe.nil)
theorem acall_weakX {P : Program} {f : FuncId} {args args' : List AVal} {σ : AHeap} {Q : AVal → AHeap → Prop} (h : ∀ κ vs, RepL κ args vs → RepL κ args' vs) (k : ACalls P f args' σ Q) : ACalls P f args σ Q := by
  rw [ACalls_def] at k ⊢
  exact fun κ w cargs hI hr => k κ w cargs hI (h κ cargs hr)
theorem buNew (σ : AHeap) : ACalls Try.prog i_rxbuf_New [] σ fun v σ' => ∃ ib im, v = .ptr ib 0 ∧ Hp σ (XL ib im [] []) σ' := by
  refine k_rxbuf_New rfl ?_
  have H := Hp.nil σ
  (refine wX ?_)
  refine hnewmap H ?_
  clear H
  intro im τ H
  (refine wX ?_)
  skip
  refine hnew H rfl ?_
  clear H
  intro ib τ H
  (refine wX ?_)
  skip
  exact aret (VLe.refl _) (Sub.refl _) ⟨ib, im, rfl, H⟩
theorem XOk.nil : XOk [] := ⟨List.nodup_nil, nofun, nofun, by decide⟩
theorem putV_no {S : List PV} {p : Pk} (h : putS S p ≠ 0) : putV S p = S := by unfold putV; rw [if_pos h]
end Go.Proofs.Ytgbpjbpdpgbngaa
/-
  Statement of what came in parts: what is refused changes nothing; what came once is there twice.
-/
namespace Go.Proofs.Ytgbpjbpdpgbngaa
set_option maxRecDepth 20000
open Go Go.Am

theorem spanP_right {p : Pk} (h : rightB p = true) : spRight (spanP p) = true := by
  obtain ⟨g1, g2, g3, g4, g5, g6, g7, g8, g9⟩ := right_ok h
  have gp := right_pos h
  exact spRight_iff.2 ⟨g6, by unfold spanP; dsimp only; omega, by unfold spanP; dsimp only; omega⟩
theorem topL_le {l : List Sp} (h : SOk l) {b : Int} (hb : 0 ≤ b) : topL l ≤ b ↔ ∀ p, hasP l p → p < b := by
  unfold topL
  rcases snoc_cases l with rfl | ⟨r, z, rfl⟩
  · exact ⟨fun _ p hp => (has_nil.1 hp).elim, fun _ => hb⟩
  · rw [List.getLast?_concat]
    dsimp only
    obtain ⟨k1, k2, k3, k4⟩ := h.n.last
    constructor
    · rintro hz p ⟨y, hy, h1, h2⟩
      rcases List.mem_append.1 hy with hy | hy
      · have := k1 y hy; omega
      · rw [List.mem_singleton.1 hy] at h2; omega
    · intro hp
      have := hp (z.2 - 1) ⟨z, by simp, by omega, by omega⟩
      omega
structure SInv (S : List PV) : Prop where
  nd : (S.map (·.sn)).Nodup
  ok : ∀ x ∈ S, x.Ok
theorem XOk.inv {X : List PX} (ok : XOk X) : SInv (pvs X) := ⟨by have := ok.nd; rw [show (pvs X).map (·.sn) = X.map (·.pv.sn) by rw [List.map_map]; rfl]; exact this, fun x hx => by obtain ⟨y, hy, rfl⟩ := List.mem_map.1 hx; exact ok.ok y hy⟩
end Go.Proofs.Ytgbpjbpdpgbngaa
/-
  What came in parts: bytes that are filled in, and edges; plain.
-/
namespace Go.Proofs.Ytgbpjbpdpgbngaa
set_option maxRecDepth 20000
open Go Go.Am

section
variable {q : Pk}
/-- Bytes that are filled in. -/
theorem fillN_get {l : List Sp} {f : Nat} {d D : List UInt8} : ∀ {k j : Nat}, k ≤ d.length → f + d.length ≤ D.length → (fillN l f d D k)[j]? = if f ≤ j ∧ j < f + k ∧ hasS ((j : Int), (j : Int) + 1) l = false then d[j - f]? else D[j]?
  | 0, j, _, _ => by
    rw [if_neg (by omega)]; rfl
  | k + 1, j, hk, hD => by
    have ih := fillN_get (l := l) (f := f) (d := d) (D := D) (k := k) (j := j) (by omega) hD
    have hlen := fillN_len l f d D k
    have e : fillN l f d D (k + 1) = if hasS ((f : Int) + (k : Int), (f : Int) + (k : Int) + 1) l = true then fillN l f d D k else (fillN l f d D k).set (f + k) (d[k]?.getD 0) := rfl
    rw [e]
    by_cases hj : j = f + k
    · subst hj
      rw [show (((f + k : Nat)) : Int) = (f : Int) + (k : Int) by omega] at ih ⊢
      rw [if_neg (by omega)] at ih
      by_cases hh : hasS ((f : Int) + (k : Int), (f : Int) + (k : Int) + 1) l = true
      · rw [if_pos hh, if_neg (by rw [hh]; simp)]; exact ih
      · have hh' : hasS ((f : Int) + (k : Int), (f : Int) + (k : Int) + 1) l = false := by simpa using hh
        rw [if_neg hh, if_pos ⟨by omega, by omega, hh'⟩, List.getElem?_set_self (by omega), show f + k - f = k by omega, List.getElem?_eq_getElem (by omega)]; rfl
    · have same : (if hasS ((f : Int) + (k : Int), (f : Int) + (k : Int) + 1) l = true then fillN l f d D k else (fillN l f d D k).set (f + k) (d[k]?.getD 0))[j]? = (fillN l f d D k)[j]? := by
        split
        · rfl
        · rw [List.getElem?_set_ne (fun e => hj e.symm)]
      rw [same, ih]
      by_cases hc : f ≤ j ∧ j < f + k ∧ hasS ((j : Int), (j : Int) + 1) l = false
      · rw [if_pos hc, if_pos ⟨hc.1, by omega, hc.2.2⟩]
      · rw [if_neg hc, if_neg (fun g => hc ⟨g.1, by omega, g.2.2⟩)]
theorem hasE_note1 {em : List (Int × AVal)} {k : Int} : hasE (note1 q em) k = (hasE em k || decide (q.off ≠ 0 ∧ bitsOp .and .i64 q.fi 2 = 0 ∧ k = q.off)) := by
  unfold note1
  by_cases h0 : q.off = 0
  · rw [if_pos h0]; simp [h0]
  · rw [if_neg h0]
    by_cases hb : bitsOp .and .i64 q.fi 2 = 0
    · rw [if_pos hb, hasE_set]; simp [h0, hb, Bool.or_comm]
    · rw [if_neg hb]; simp [hb]
theorem hasE_noteN {em : List (Int × AVal)} {k : Int} : ∀ m, hasE (noteN q em m) k = true ↔ hasE em k = true ∨ ∃ i, 0 < i ∧ i < m ∧ k = q.off + (total (q.fs.take i) : Int)
  | 0 => ⟨.inl, fun h => h.elim id fun ⟨i, _, h, _⟩ => absurd h (by omega)⟩
  | m + 1 => by
    have e : noteN q em (m + 1) = if m > 0 then mapSet (noteN q em m) (q.off + (total (q.fs.take m) : Int)) trueV else noteN q em m := rfl
    have ih := hasE_noteN (em := em) (k := k) m
    have ext : (∃ i, 0 < i ∧ i < m + 1 ∧ k = q.off + (total (q.fs.take i) : Int)) ↔ (∃ i, 0 < i ∧ i < m ∧ k = q.off + (total (q.fs.take i) : Int)) ∨ (m > 0 ∧ k = q.off + (total (q.fs.take m) : Int)) := by
      constructor
      · rintro ⟨i, h1, h2, h3⟩
        by_cases hi : i = m
        · subst hi; exact .inr ⟨h1, h3⟩
        · exact .inl ⟨i, h1, by omega, h3⟩
      · rintro (⟨i, h1, h2, h3⟩ | ⟨h1, h2⟩)
        · exact ⟨i, h1, by omega, h3⟩
        · exact ⟨m, h1, by omega, h2⟩
    rw [e, ext]
    by_cases hm : m > 0
    · rw [if_pos hm, hasE_set, Bool.or_eq_true, decide_eq_true_iff, ih]
      constructor
      · rintro (h | h | h)
        · exact .inr (.inr ⟨hm, h⟩)
        · exact .inl h
        · exact .inr (.inl h)
      · rintro (h | h | h)
        · exact .inr (.inl h)
        · exact .inr (.inr h)
        · exact .inl h.2
    · rw [if_neg hm, ih]
      constructor
      · rintro (h | h)
        · exact .inl h
        · exact .inr (.inl h)
      · rintro (h | h | h)
        · exact .inl h
        · exact .inr h
        · exact absurd h.1 hm
theorem hasE_noteM {ends : Bool} {em : List (Int × AVal)} {k : Int} : hasE (noteM q ends em) k = true ↔ hasE em k = true ∨ (q.off ≠ 0 ∧ bitsOp .and .i64 q.fi 2 = 0 ∧ k = q.off) ∨ (∃ i, 0 < i ∧ i < q.fs.length ∧ k = q.off + (total (q.fs.take i) : Int)) ∨ (ends = false ∧ bitsOp .and .i64 q.fi 1 = 0 ∧ k = q.off + (total q.fs : Int)) := by
  have hN : hasE (noteN q (note1 q em) q.fs.length) k = true ↔ hasE em k = true ∨ (q.off ≠ 0 ∧ bitsOp .and .i64 q.fi 2 = 0 ∧ k = q.off) ∨ (∃ i, 0 < i ∧ i < q.fs.length ∧ k = q.off + (total (q.fs.take i) : Int)) := by
    rw [hasE_noteN, hasE_note1, Bool.or_eq_true, decide_eq_true_iff, or_assoc]
  unfold noteM
  cases ends
  · rw [if_neg (by simp)]
    by_cases hb : bitsOp .and .i64 q.fi 1 = 0
    · rw [if_pos hb, hasE_set, Bool.or_eq_true, decide_eq_true_iff, hN]
      constructor
      · rintro (h | h | h | h)
        · exact .inr (.inr (.inr ⟨rfl, hb, h⟩))
        · exact .inl h
        · exact .inr (.inl h)
        · exact .inr (.inr (.inl h))
      · rintro (h | h | h | h)
        · exact .inr (.inl h)
        · exact .inr (.inr (.inl h))
        · exact .inr (.inr (.inr h))
        · exact .inl h.2.2
    · rw [if_neg hb, hN]
      constructor
      · rintro (h | h | h)
        · exact .inl h
        · exact .inr (.inl h)
        · exact .inr (.inr (.inl h))
      · rintro (h | h | h | h)
        · exact .inl h
        · exact .inr (.inl h)
        · exact .inr (.inr h)
        · exact absurd h.2.1 hb
  · rw [if_pos rfl, hN]
    constructor
    · rintro (h | h | h)
      · exact .inl h
      · exact .inr (.inl h)
      · exact .inr (.inr (.inl h))
    · rintro (h | h | h | h)
      · exact .inl h
      · exact .inr (.inl h)
      · exact .inr (.inr h)
      · cases h.1
end
def fiV (A B : Bool) : Int := (if A = true then 2 else 0) + (if B = true then 1 else 0)
theorem fi_or2 : ∀ A B w : Bool, bitsOp .or .i64 (fiV A B) (if w = true then 2 else 0) = fiV (A || w) B := by decide +kernel
theorem fi_or1 : ∀ A B w : Bool, bitsOp .or .i64 (fiV A B) (if w = true then 1 else 0) = fiV A (B || w) := by decide +kernel
end Go.Proofs.Ytgbpjbpdpgbngaa
/-
  Equal lists of bytes.
-/
namespace Go.Proofs.Ytgbpjbpdpgbngaa
open Go Go.Am

end Go.Proofs.Ytgbpjbpdpgbngaa
/-
  Equal fields.
-/
namespace Go.Proofs.Ytgbpjbpdpgbngaa
open Go Go.Am

end Go.Proofs.Ytgbpjbpdpgbngaa
/-
  The document's lengths: how many bytes they have.
-/
namespace Go.Proofs.Ytgbpjbpdpgbngaa
open Go Go.Am

end Go.Proofs.Ytgbpjbpdpgbngaa
/-
  Packets that are acknowledged: their data, and which are equal; the document's sizes.
-/
namespace Go.Proofs.Ytgbpjbpdpgbngaa
open Go Go.Am

end Go.Proofs.Ytgbpjbpdpgbngaa
/-
  What of fields lies between two places of their bytes; plain.
-/
namespace Go.Proofs.Ytgbpjbpdpgbngaa
open Go Go.Am

def pcs : List (List UInt8) → Nat → Nat → List (List UInt8)
  | [], _, _ => []
  | f :: fs, a, b => if b ≤ a then [] else if f.length ≤ a then pcs fs (a - f.length) (b - f.length) else (f.take b).drop a :: pcs fs 0 (b - f.length)
theorem pcs_nil {fs : List (List UInt8)} {a b : Nat} (h : b ≤ a) : pcs fs a b = [] := by
  cases fs with
  | nil => rfl
  | cons f fs => unfold pcs; rw [if_pos h]
theorem pcs_skip {f : List UInt8} {fs : List (List UInt8)} {a b : Nat} (h : f.length ≤ a) : pcs (f :: fs) a b = pcs fs (a - f.length) (b - f.length) := by
  by_cases hb : b ≤ a
  · rw [pcs_nil hb, pcs_nil (by omega)]
  · show (if b ≤ a then [] else if f.length ≤ a then pcs fs (a - f.length) (b - f.length) else (f.take b).drop a :: pcs fs 0 (b - f.length)) = _
    rw [if_neg hb, if_pos h]
theorem pcs_here {f : List UInt8} {fs : List (List UInt8)} {a b : Nat} (h : a < f.length) (hb : a < b) : pcs (f :: fs) a b = (f.take b).drop a :: pcs fs 0 (b - f.length) := by
  show (if b ≤ a then [] else if f.length ≤ a then pcs fs (a - f.length) (b - f.length) else (f.take b).drop a :: pcs fs 0 (b - f.length)) = _
  rw [if_neg (by omega), if_neg (by omega)]
/-- A place at which a field begins, or ends. -/
def edge : List (List UInt8) → Nat → Bool
  | [], x => decide (x = 0)
  | f :: fs, x => decide (x = 0) || (decide (f.length ≤ x) && edge fs (x - f.length))
theorem edge_zero (fs : List (List UInt8)) : edge fs 0 = true := by cases fs <;> rfl
theorem edge_skip {f : List UInt8} {fs : List (List UInt8)} {x : Nat} (h : f.length ≤ x) : edge (f :: fs) x = edge fs (x - f.length) := by
  show (decide (x = 0) || (decide (f.length ≤ x) && edge fs (x - f.length))) = _
  rw [decide_eq_true h, Bool.true_and]
  by_cases h0 : x = 0
  · subst h0; rw [Nat.zero_sub, edge_zero]; rfl
  · rw [decide_eq_false h0, Bool.false_or]
theorem edge_in {f : List UInt8} {fs : List (List UInt8)} {x : Nat} (h0 : 0 < x) (h : x < f.length) : edge (f :: fs) x = false := by
  show (decide (x = 0) || (decide (f.length ≤ x) && edge fs (x - f.length))) = _
  rw [decide_eq_false (by omega), decide_eq_false (by omega)]; rfl
theorem edge_iff : ∀ {fs : List (List UInt8)} {x : Nat}, edge fs x = true ↔ ∃ i, i ≤ fs.length ∧ total (fs.take i) = x
  | [], x => by
    show decide (x = 0) = true ↔ _
    rw [decide_eq_true_iff]
    constructor
    · rintro rfl; exact ⟨0, Nat.le_refl _, rfl⟩
    · rintro ⟨i, _, h⟩; simp at h; exact h.symm
  | f :: fs, x => by
    by_cases h : f.length ≤ x
    · rw [edge_skip h, edge_iff]
      constructor
      · rintro ⟨i, h1, h2⟩
        refine ⟨i + 1, by simpa using h1, ?_⟩
        rw [List.take_succ_cons, total_cons]; omega
      · rintro ⟨i, h1, h2⟩
        cases i with
        | zero => exact ⟨0, Nat.zero_le _, by have : (0 : Nat) = x := h2; rw [← this]; simp [total]⟩
        | succ i =>
          rw [List.take_succ_cons, total_cons] at h2
          exact ⟨i, by simpa using h1, by omega⟩
    · by_cases h0 : x = 0
      · subst h0; exact ⟨fun _ => ⟨0, Nat.zero_le _, rfl⟩, fun _ => edge_zero _⟩
      · rw [edge_in (by omega) (by omega)]
        constructor
        · intro h; cases h
        · rintro ⟨i, h1, h2⟩
          cases i with
          | zero => exact (h0 h2.symm).elim
          | succ i => rw [List.take_succ_cons, total_cons] at h2; omega
theorem edge_top (fs : List (List UInt8)) : edge fs (total fs) = true := edge_iff.2 ⟨fs.length, Nat.le_refl _, by rw [List.take_length]⟩
/-- A piece of its own: of one field, from its beginning or from the first place on. -/
theorem pcs_new : ∀ {fs : List (List UInt8)} {a x y : Nat}, a ≤ x → x < y → y ≤ total fs → (x = a ∨ edge fs x = true) → (∀ z, x < z → z < y → edge fs z = false) →
    pcs fs a y = pcs fs a x ++ [(fs.flatten.take y).drop x]
  | [], a, x, y, h1, h2, h3, h4, h5 => by have : total [] = 0 := rfl; omega
  | f :: fs, a, x, y, h1, h2, h3, h4, h5 => by
    rw [total_cons] at h3
    by_cases hf : f.length ≤ x
    · -- the piece lies behind the first field
      have hd : (((f :: fs).flatten).take y).drop x = (fs.flatten.take (y - f.length)).drop (x - f.length) := by
        rw [List.flatten_cons, List.take_append, List.drop_append, List.take_of_length_le (by omega), List.drop_of_length_le (by omega), List.nil_append]
      have key : ∀ a', a' ≤ x - f.length → (x - f.length = a' ∨ edge fs (x - f.length) = true) → pcs fs a' (y - f.length) = pcs fs a' (x - f.length) ++ [(fs.flatten.take (y - f.length)).drop (x - f.length)] := fun a' ha' he =>
        pcs_new ha' (by omega) (by omega) he fun z g1 g2 => by
          have := h5 (z + f.length) (by omega) (by omega)
          rw [edge_skip (by omega), Nat.add_sub_cancel] at this; exact this
      rw [hd]
      by_cases ha : f.length ≤ a
      · rw [pcs_skip ha, pcs_skip ha]
        refine key _ (by omega) ?_
        rcases h4 with rfl | h4
        · exact .inl rfl
        · rw [edge_skip hf] at h4; exact .inr h4
      · have hx : a < x := by omega
        rw [pcs_here (by omega) (by omega), pcs_here (by omega) hx]
        have he : edge fs (x - f.length) = true := by
          rcases h4 with rfl | h4
          · omega
          · rw [edge_skip hf] at h4; exact h4
        rw [key 0 (Nat.zero_le _) (.inr he), List.take_of_length_le (l := f) (by omega), List.take_of_length_le (l := f) (by omega)]; rfl
    · have hxa : x = a := by
        rcases h4 with h4 | h4
        · exact h4
        · by_cases h0 : x = 0
          · omega
          · rw [edge_in (by omega) (by omega)] at h4; cases h4
      subst hxa
      rw [pcs_nil (Nat.le_refl x), List.nil_append, pcs_here (by omega) h2]
      have hyf : y ≤ f.length := by
        refine Decidable.byContradiction fun hn => ?_
        have := h5 f.length (by omega) (by omega)
        rw [edge_skip (Nat.le_refl _), Nat.sub_self, edge_zero] at this; cases this
      rw [pcs_nil (by omega), List.flatten_cons, List.take_append_of_le_length hyf]
/-- A byte more of the same field. -/
theorem pcs_more : ∀ {fs : List (List UInt8)} {a x : Nat}, a < x → (hx : x < total fs) → edge fs x = false → ∃ l p, pcs fs a x = l ++ [p] ∧ pcs fs a (x + 1) = l ++ [p ++ [fs.flatten[x]'hx]]
  | [], a, x, h1, h2, h3 => by have : total [] = 0 := rfl; omega
  | f :: fs, a, x, h1, h2, h3 => by
    have h2' := h2
    rw [total_cons] at h2'
    by_cases hf : f.length ≤ x
    · rw [edge_skip hf] at h3
      have hlt : f.length < x := by
        rcases Nat.lt_or_ge f.length x with h | h
        · exact h
        · have : x - f.length = 0 := by omega
          rw [this, edge_zero] at h3; cases h3
      have hg : (f :: fs).flatten[x]'h2 = fs.flatten[x - f.length]'(show x - f.length < total fs by omega) := by
        simp only [List.flatten_cons]
        exact List.getElem_append_right hf
      rw [hg]
      by_cases ha : f.length ≤ a
      · rw [pcs_skip ha, pcs_skip ha, show x + 1 - f.length = (x - f.length) + 1 by omega]
        exact pcs_more (by omega) (by omega) h3
      · rw [pcs_here (by omega) h1, pcs_here (by omega) (by omega), show x + 1 - f.length = (x - f.length) + 1 by omega]
        obtain ⟨l, p, e1, e2⟩ := pcs_more (a := 0) (by omega) (show x - f.length < total fs by omega) h3
        rw [e1, e2, List.take_of_length_le (l := f) (by omega), List.take_of_length_le (l := f) (by omega)]
        exact ⟨(f.drop a) :: l, p, rfl, rfl⟩
    · have hg : (f :: fs).flatten[x]'h2 = f[x]'(by omega) := by
        simp only [List.flatten_cons]
        rw [List.getElem_append_left (by omega)]
      rw [hg, pcs_here (by omega) h1, pcs_here (by omega) (by omega), pcs_nil (by omega), pcs_nil (by omega)]
      refine ⟨[], (f.take x).drop a, rfl, ?_⟩
      rw [List.take_add_one, List.getElem?_eq_getElem (by omega), List.drop_append_of_le_length (by rw [List.length_take]; omega)]; rfl
theorem pcs_flat : ∀ {fs : List (List UInt8)} {a b : Nat}, a ≤ b → (pcs fs a b).flatten = (fs.flatten.take b).drop a
  | [], a, b, h => by simp [pcs]
  | f :: fs, a, b, h => by
    by_cases hb : b ≤ a
    · rw [pcs_nil hb, List.drop_of_length_le (by rw [List.length_take]; omega)]; rfl
    · rw [List.flatten_cons, List.take_append, List.drop_append]
      by_cases hf : f.length ≤ a
      · rw [pcs_skip hf, pcs_flat (by omega), List.drop_of_length_le (l := f.take b) (by rw [List.length_take]; omega), List.nil_append, List.length_take, Nat.min_eq_right (by omega)]
      · rw [pcs_here (by omega) (by omega), List.flatten_cons, pcs_flat (Nat.zero_le _), List.drop_zero, List.length_take]
        by_cases hbf : b ≤ f.length
        · rw [show b - f.length = 0 by omega, List.take_zero, List.drop_nil]
        · rw [show a - min b f.length = 0 by omega, List.drop_zero]
theorem pcs_len : ∀ {fs : List (List UInt8)} {a b : Nat}, (pcs fs a b).length ≤ fs.length
  | [], a, b => Nat.le_refl _
  | f :: fs, a, b => by
    by_cases hb : b ≤ a
    · rw [pcs_nil hb]; exact Nat.zero_le _
    · by_cases hf : f.length ≤ a
      · rw [pcs_skip hf]
        have := pcs_len (fs := fs) (a := a - f.length) (b := b - f.length)
        simp; omega
      · rw [pcs_here (by omega) (by omega)]
        have := pcs_len (fs := fs) (a := 0) (b := b - f.length)
        simp; omega
theorem pcs_total {fs : List (List UInt8)} {a b : Nat} (h : a ≤ b) (hb : b ≤ total fs) : total (pcs fs a b) = b - a := by
  show (pcs fs a b).flatten.length = _
  rw [pcs_flat h, List.length_drop, List.length_take]
  show min b (total fs) - a = _
  omega
/-- All of them. -/
theorem pcs_all : ∀ {fs : List (List UInt8)}, (∀ f ∈ fs, f.length ≠ 0) → pcs fs 0 (total fs) = fs
  | [], _ => rfl
  | f :: fs, h => by
    have h0 := h f (List.mem_cons_self ..)
    rw [total_cons, pcs_here (by omega) (by omega), List.take_of_length_le (by omega), List.drop_zero, Nat.add_sub_cancel_left, pcs_all fun g hg => h g (List.mem_cons_of_mem _ hg)]
theorem pcs_ne : ∀ {fs : List (List UInt8)} {a b : Nat} {p : List UInt8}, p ∈ pcs fs a b → p.length ≠ 0
  | [], a, b, p, h => by simp [pcs] at h
  | f :: fs, a, b, p, h => by
    by_cases hb : b ≤ a
    · rw [pcs_nil hb] at h; simp at h
    · by_cases hf : f.length ≤ a
      · rw [pcs_skip hf] at h; exact pcs_ne h
      · rw [pcs_here (by omega) (by omega)] at h
        rcases List.mem_cons.1 h with rfl | h
        · rw [List.length_drop, List.length_take]; omega
        · exact pcs_ne h
/-- A piece that is not the last one is of a field that is not the last one. -/
theorem pcs_bound {B : Nat} : ∀ {fs : List (List UInt8)} {a b : Nat}, (∀ i (h : i < fs.length), i + 1 < fs.length → fs[i].length ≤ B) → ∀ j (h : j < (pcs fs a b).length), j + 1 < (pcs fs a b).length → (pcs fs a b)[j].length ≤ B
  | [], a, b, h, j, h1, h2 => by simp [pcs] at h1
  | f :: fs, a, b, h, j, h1, h2 => by
    have ht : ∀ i (h : i < fs.length), i + 1 < fs.length → fs[i].length ≤ B := fun i hi hi2 => by
      have := h (i + 1) (by simpa using hi) (by simpa using hi2)
      simpa using this
    by_cases hb : b ≤ a
    · have e := pcs_nil (fs := f :: fs) hb
      simp only [e, List.length_nil] at h1; omega
    · by_cases hf : f.length ≤ a
      · have e := pcs_skip (fs := fs) (b := b) hf
        simp only [e] at h1 h2 ⊢
        exact pcs_bound ht j h1 h2
      · have e := pcs_here (f := f) (fs := fs) (a := a) (b := b) (by omega) (by omega)
        simp only [e, List.length_cons] at h1 h2 ⊢
        cases j with
        | zero =>
          have hl := pcs_len (fs := fs) (a := 0) (b := b - f.length)
          have := h 0 (by simp) (by simp only [List.length_cons]; omega)
          simp only [List.getElem_cons_zero] at this ⊢
          rw [List.length_drop, List.length_take]; omega
        | succ j =>
          simp only [List.getElem_cons_succ]
          exact pcs_bound ht j (by omega) (by omega)
theorem pcs_pos {fs : List (List UInt8)} {a b : Nat} (h : a < b) (hb : b ≤ total fs) : 1 ≤ (pcs fs a b).length := by
  have h1 := pcs_total (fs := fs) (Nat.le_of_lt h) hb
  rcases Nat.eq_zero_or_pos (pcs fs a b).length with h0 | h0
  · rw [List.length_eq_zero_iff.1 h0, total_nil] at h1; omega
  · exact h0
end Go.Proofs.Ytgbpjbpdpgbngaa
/-
  Packets that are cut anew: sizes, and where fields end.
-/
namespace Go.Proofs.Ytgbpjbpdpgbngaa
open Go Go.Am

theorem gLenWidth (w : Int) (σ : AHeap) : ACalls Try.prog i_reseg_lenWidth [i64v w] σ fun v σ' => v = i64v (lenW w) ∧ σ' = σ := by
  refine k_reseg_lenWidth rfl ?_
  (refine wX ?_)
  by_cases h : w = 10
  · refine abr_yes h ?_
    (refine wX ?_)
    exact aret_same ⟨by unfold lenW; rw [if_pos h], rfl⟩
  · refine abr_no h ?_
    (refine wX ?_)
    exact aret_same ⟨by unfold lenW; rw [if_neg h], rfl⟩
def leastV (w : Int) : Int := if amHead true w = 0 then 0 else amHead true w + 1
theorem gLeast (w : Int) (σ : AHeap) : ACalls Try.prog i_reseg_Least [i64v w] σ fun v σ' => v = i64v (leastV w) ∧ σ' = σ := by
  have hr := amHead_range true w
  refine k_reseg_Least rfl ?_
  (refine wX ?_)
  refine acall (aHead true w σ) ?_
  rintro _ σ_ ⟨rfl, e_⟩
  obtain rfl := e_.symm
  refine ⟨?_, Ext.refl _⟩
  (refine wX ?_)
  by_cases h : amHead true w = 0
  · (repeat ((refine zY (by omega) ?_); (refine wX ?_)))
    exact aret_same ⟨by unfold leastV; rw [if_pos h], rfl⟩
  · (repeat ((first | refine zI (by omega) ?_ | refine zN (by omega) ?_); (refine wX ?_)))
    exact aret_same ⟨by unfold leastV; rw [if_neg h], rfl⟩
def endsL (fs : List (List UInt8)) : List Int := (List.range fs.length).map fun i => (total (fs.take (i + 1)) : Int)
theorem endsL_len (fs : List (List UInt8)) : (endsL fs).length = fs.length := by unfold endsL; rw [List.length_map, List.length_range]
theorem get_ends {fs : List (List UInt8)} {i : Nat} (h : i < fs.length) : ((endsL fs).map i64v)[((i : Nat) : Int).toNat]? = some (i64v (total (fs.take (i + 1)))) := by
  rw [Int.toNat_natCast, List.getElem?_map, List.getElem?_eq_getElem (by rw [endsL_len]; exact h)]
  unfold endsL
  rw [List.getElem_map, List.getElem_range]; rfl
theorem ends_snoc {fs : List (List UInt8)} {i : Nat} (h : i < fs.length) : ((List.range (i + 1)).map fun j => (total (fs.take (j + 1)) : Int)).map i64v = ((List.range i).map fun j => (total (fs.take (j + 1)) : Int)).map i64v ++ [i64v (total (fs.take (i + 1)))] := by
  rw [List.range_succ, List.map_append, List.map_append]; rfl
set_option maxRecDepth 20000 in
theorem gEnds (p : Pk) (σ : AHeap) (hn : p.fs.length ≤ 1000) (ht : total p.fs ≤ 1000000) : ACalls Try.prog i_reseg_ends [amV p] σ fun v σ' => v = ints .none (endsL p.fs) ∧ σ' = σ := by
  refine k_reseg_ends rfl ?_
  have H := Hp.nil σ
  (refine wX ?_)
  refine hnew H rfl ?_
  clear H
  intro id τ H
  (refine wX ?_)
  (repeat ((first | (apply zL H; (· repeat first | exact .h | apply AtK.t); (· rfl)) | rw [List.length_map]); (refine wX ?_)))
  refine aloop (α := Nat × Tok × AHeap) (fun y => [(s3, ints y.2.1 ((List.range y.1).map fun j => (total (p.fs.take (j + 1)) : Int))), (s4, i64v (total (p.fs.take y.1))), (s10, i64v y.1)]) (fun y => y.2.2) (fun y => y.1 ≤ p.fs.length ∧ Hp σ [.t y.2.1, .o id (.cells (amV p).cells)] y.2.2) (fun y => p.fs.length - y.1) (0, .full, τ) ⟨Nat.zero_le _, H.cons_full⟩ (Sub.refl _) ?_ ?_
  · (refine wX ?_)
    exact elX
  clear H
  rintro ⟨i, tk, τ⟩ ⟨hi, H⟩
  dsimp only at hi H ⊢
  (refine wX ?_)
  skip
  have htt := total_take_le p.fs i
  by_cases h : i < p.fs.length
  · have hts := total_take_succ p.fs i h
    have htl := total_take_le p.fs (i + 1)
    (repeat ((refine zY (by omega) ?_); (refine wX ?_)))
    refine aget (by omega) (get_lists h) ?_
    (refine wX ?_)
    (repeat ((first | refine zI (by omega) ?_ | refine zR rfl ?_ | rw [List.length_map]); (refine wX ?_)))
    rw [show (total (p.fs.take i) : Int) + (p.fs[i].length : Int) = (total (p.fs.take (i + 1)) : Int) by omega]
    apply zP H
    · (repeat first | exact .h | apply AtK.t)
    · exact (by rw [List.length_map, List.length_map, List.length_range]; show (_ + 1) * 8 ≤ _; omega)
    intro tk2
    (conv => whnf)
    clear H
    intro τ H
    (refine wX ?_)
    rw [← ends_snoc h] at *
    (repeat ((refine zI (by omega) ?_); (refine wX ?_)))
    refine ⟨(i + 1, tk2, τ), ⟨h, H⟩, by dsimp only; omega, Sub.refl _, ?_⟩
    (refine wX ?_)
    exact elX
  · (repeat ((refine zN (by omega) ?_); (refine wX ?_)))
    obtain rfl : i = p.fs.length := by omega
    exact aret (VLe.slice _ _ _) H.sub ⟨rfl, rfl⟩
end Go.Proofs.Ytgbpjbpdpgbngaa
/-
  What goes of a packet that is cut anew; plain.
-/
namespace Go.Proofs.Ytgbpjbpdpgbngaa
open Go Go.Am

/-- A byte more has room. -/
def okB (fs : List (List UInt8)) (room lw : Int) (a x : Nat) : Prop := 1 ≤ room - ((x : Int) - a) - sizeV (((pcs fs a (x + 1)).length : Int) - 1) lw
instance (fs : List (List UInt8)) (room lw : Int) (a x : Nat) : Decidable (okB fs room lw a x) := by unfold okB; infer_instance
def cutEnd (fs : List (List UInt8)) (room lw : Int) (a : Nat) : Nat → Nat → Nat
  | 0, x => x
  | k + 1, x => if okB fs room lw a x then cutEnd fs room lw a k (x + 1) else x
section
variable {fs : List (List UInt8)} {room lw : Int} {a : Nat}
theorem cutEnd_from {x t : Nat} : ∀ {k y : Nat}, y ≤ x → x ≤ y + k → (∀ z, y ≤ z → z < x → okB fs room lw a z) → (x < y + k → ¬ okB fs room lw a x) → cutEnd fs room lw a k y = x
  | 0, y, h1, h2, _, _ => by show y = x; omega
  | k + 1, y, h1, h2, h3, h4 => by
    show (if okB fs room lw a y then cutEnd fs room lw a k (y + 1) else y) = x
    by_cases e : y = x
    · subst e
      rw [if_neg (h4 (by omega))]
    · rw [if_pos (h3 y (Nat.le_refl _) (by omega))]
      exact cutEnd_from (t := t) (by omega) (by omega) (fun z g1 g2 => h3 z (by omega) g2) (fun g => h4 (by omega))
theorem cutEnd_eq {x t : Nat} (h1 : a ≤ x) (h2 : x ≤ t) (h3 : ∀ y, a ≤ y → y < x → okB fs room lw a y) (h4 : x < t → ¬ okB fs room lw a x) : cutEnd fs room lw a (t - a) a = x :=
  cutEnd_from (t := t) h1 (by omega) h3 (fun h => h4 (by omega))
theorem cutEnd_spec : ∀ (k y : Nat), y ≤ cutEnd fs room lw a k y ∧ cutEnd fs room lw a k y ≤ y + k ∧ (∀ z, y ≤ z → z < cutEnd fs room lw a k y → okB fs room lw a z) ∧ (cutEnd fs room lw a k y < y + k → ¬ okB fs room lw a (cutEnd fs room lw a k y))
  | 0, y => ⟨Nat.le_refl _, Nat.le_refl _, fun z h1 h2 => by have : z < y := h2; omega, fun h => by have : y < y + 0 := h; omega⟩
  | k + 1, y => by
    have e : cutEnd fs room lw a (k + 1) y = if okB fs room lw a y then cutEnd fs room lw a k (y + 1) else y := rfl
    rw [e]
    by_cases hk : okB fs room lw a y
    · rw [if_pos hk]
      obtain ⟨h1, h2, h3, h4⟩ := cutEnd_spec k (y + 1)
      refine ⟨by omega, by omega, fun z g1 g2 => ?_, fun g => h4 (by omega)⟩
      by_cases ez : z = y
      · rw [ez]; exact hk
      · exact h3 z (by omega) g2
    · rw [if_neg hk]
      exact ⟨Nat.le_refl _, by omega, fun z h1 h2 => by omega, fun _ => hk⟩
end
theorem edge_between {fs : List (List UInt8)} {f x : Nat} (hf : f < fs.length) (h1 : total (fs.take f) < x) (h2 : x < total (fs.take (f + 1))) : edge fs x = false := by
  refine Bool.eq_false_iff.2 fun h => ?_
  obtain ⟨i, hi, e⟩ := edge_iff.1 h
  rcases Nat.lt_or_ge f i with hfi | hfi
  · have := total_take_le (fs.take i) (f + 1)
    rw [List.take_take, Nat.min_eq_left (by omega)] at this
    omega
  · have := total_take_le (fs.take f) i
    rw [List.take_take, Nat.min_eq_left hfi] at this
    omega
theorem edge_take {fs : List (List UInt8)} {f : Nat} (hf : f ≤ fs.length) : edge fs (total (fs.take f)) = true := edge_iff.2 ⟨f, hf, rfl⟩
def wth (fi : Int) : Bool := decide (2 ≤ fi)
def ctg (fi : Int) : Bool := decide (fi % 2 = 1)
def cutFi (p : Pk) (a x : Nat) : Int := (if edge p.fs a = false ∨ (a = 0 ∧ wth p.fi = true) then 2 else 0) + (if edge p.fs x = false ∨ (x = total p.fs ∧ ctg p.fi = true) then 1 else 0)
def cutPk (p : Pk) (a x : Nat) : Pk := ⟨false, cutFi p a x, p.sn, true, decide (x = total p.fs), a, pcs p.fs a x⟩
def pk0 : Pk := ⟨false, 0, 0, false, false, 0, []⟩
def cutAt (p : Pk) (a t g w : Int) : Nat := cutEnd p.fs (min g 4000 - amHead true w) (lenW w) a.toNat (t.toNat - a.toNat) a.toNat
def goes (p : Pk) (a t g w : Int) : Prop := a = 0 ∧ t = total p.fs ∧ amSize p w ≤ g
instance (p : Pk) (a t g w : Int) : Decidable (goes p a t g w) := by unfold goes; infer_instance
def badArg (p : Pk) (a t g : Int) : Prop := g < 0 ∨ g > 4096 ∨ a < 0 ∨ a ≥ t ∨ t > total p.fs
instance (p : Pk) (a t g : Int) : Decidable (badArg p a t g) := by unfold badArg; infer_instance
def noForm (p : Pk) (w : Int) : Prop := p.part = true ∨ ¬ amSize p w > 0
instance (p : Pk) (w : Int) : Decidable (noForm p w) := by unfold noForm; infer_instance
def cutRes (p : Pk) (a t g w : Int) : Pk × Int × Int :=
  if noForm p w then (pk0, 0, 3)
  else if badArg p a t g then (pk0, 0, 1)
  else if goes p a t g w then ({ p with poll := false }, t, 0)
  else if cutAt p a t g w = a.toNat then (pk0, 0, 16)
  else (cutPk p a.toNat (cutAt p a t g w), (cutAt p a t g w : Int), 0)
end Go.Proofs.Ytgbpjbpdpgbngaa
