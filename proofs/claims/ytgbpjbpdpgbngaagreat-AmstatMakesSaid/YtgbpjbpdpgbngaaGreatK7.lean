/-
  Texts of this claim, pack 7: Cdrg, Crxr, Crxt, Cpcs, Cresg, Crxu, Crxv, Cstat, Cpack, Cbits, Cbitsp, Cbitsb, Cbitsc, Cbitsd, Cown, Cgrow, Cstatb, Casp, Crefst, Ctok2, Csames, Cas, Cseqb, Crxa, Crxwin.
-/
import Derived.Test.YtgbpjbpdpgbngaaGreatK2
import Derived.Test.YtgbpjbpdpgbngaaGreatK3
import Derived.Test.YtgbpjbpdpgbngaaGreatK4
import Derived.Test.YtgbpjbpdpgbngaaGreatK5
import Derived.Test.YtgbpjbpdpgbngaaGreatK6
set_option linter.unusedSimpArgs false
set_option linter.unusedVariables false
/-
  What came in parts, the document's: what is taken.
-/
namespace Go.Proofs.YtgbpjbpdpgbngaaGreat
set_option maxRecDepth 20000
open Go Go.Am

/-- Slices that hold these bytes, whoever may append to them. -/
inductive SLs : List AVal → List (List UInt8) → Prop
  | nil : SLs [] []
  | cons {t : Tok} {f : List UInt8} {xs : List AVal} {fs : List (List UInt8)} : SLs xs fs → SLs (sl t f :: xs) (f :: fs)
theorem SLs.len {xs : List AVal} {fs : List (List UInt8)} (h : SLs xs fs) : xs.length = fs.length := by
  induction h with
  | nil => rfl
  | cons _ ih => rw [List.length_cons, List.length_cons, ih]
theorem SLs.snoc {xs : List AVal} {fs : List (List UInt8)} (h : SLs xs fs) (t : Tok) (f : List UInt8) : SLs (xs ++ [sl t f]) (fs ++ [f]) := by
  induction h with
  | nil => exact .cons .nil
  | cons _ ih => exact .cons ih
theorem SLs.flat {xs : List AVal} {fs : List (List UInt8)} (h : SLs xs fs) : xs.flatMap AVal.cells = xs := by
  induction h with
  | nil => rfl
  | cons h ih => rw [List.flatMap_cons, ih]; rfl
theorem SLs.one {xs : List AVal} {fs : List (List UInt8)} (h : SLs xs fs) : ∀ x ∈ xs, x.cells.length = 1 := by
  induction h with
  | nil => nofun
  | cons h ih =>
    intro x hx
    rcases List.mem_cons.1 hx with rfl | hx
    · rfl
    · exact ih x hx
theorem SLs.ok {xs : List AVal} {fs : List (List UInt8)} (h : SLs xs fs) : xs.all (okElem 1) = true := by
  induction h with
  | nil => rfl
  | cons h ih => show (_ && List.all _ _) = true; rw [ih]; rfl
theorem sl_none {κ : Ghost} {t : Tok} {f : List UInt8} {u : Value} (h : RepV κ (sl t f) u) : RepV κ (sl .none f) u := by
  unfold sl at *
  generalize f.map byteV = zs at *
  cases h with
  | nil => exact .nil
  | slice h1 h2 h3 h4 h5 h6 => exact .slice h1 h2 h3 h4 h5 trivial
theorem SLs.rep {κ : Ghost} {xs : List AVal} {fs : List (List UInt8)} (h : SLs xs fs) : ∀ {vs : List Value}, RepL κ xs vs → RepL κ (fs.map (sl .none)) vs := by
  induction h with
  | nil => intro vs h; exact h
  | cons h ih => intro vs k; cases k with | cons k1 k2 => exact .cons (sl_none k1) (ih k2)
theorem SLs.lists {κ : Ghost} {xs : List AVal} {fs : List (List UInt8)} (h : SLs xs fs) {u : Value} (k : RepV κ (.slice 1 xs .none) u) : RepV κ (lists .none fs) u := by
  have hl := h.len
  have hf := h.flat
  cases k with
  | nil =>
    cases h with
    | nil => exact .nil
  | slice h1 h2 h3 h4 h5 h6 =>
    rw [hf] at h4
    refine .slice (by rw [List.length_map, ← hl]; exact h1) h2 (fun x hx => by obtain ⟨y, _, rfl⟩ := List.mem_map.1 hx; rfl) ?_ h5 trivial
    rw [show (fs.map (sl .none)).flatMap AVal.cells = fs.map (sl .none) by
      clear h1 h2 h3 h4 h5 h6 hl hf h
      induction fs with
      | nil => rfl
      | cons f fs ih => rw [List.map_cons, List.flatMap_cons, ih]; rfl]
    exact h.rep h4
theorem tup_map1 {κ : Ghost} {a b b' c : AVal} {u : Value} (hz : ∀ q, RepV κ b q → RepV κ b' q) (h : RepV κ (.tup [a, b, c]) u) : RepV κ (.tup [a, b', c]) u := by
  cases h with
  | tup k => cases k with
    | cons k1 k => cases k with
      | cons k2 k => exact .tup (.cons k1 (.cons (hz _ k2) k))
/-- The fields, one behind the other; the last may be gone on with. -/
inductive OutR : AVal → List (List UInt8) → List HE → Prop
  | nil : OutR (.slice 1 [] .full) [] []
  | row (r : Nat) (xs : List AVal) (fs : List (List UInt8)) (tk : Tok) (f : List UInt8) : SLs xs fs → OutR (.ms r 1 0 (fs.length + 1)) (fs ++ [f]) [.t tk, .o r (.cells (xs ++ [sl tk f]))]
theorem OutR.split {v : AVal} {fs : List (List UInt8)} {E : List HE} (h : OutR v fs E) : (v = .slice 1 [] .full ∧ fs = [] ∧ E = []) ∨ ∃ r xs fs' tk f, v = .ms r 1 0 (fs'.length + 1) ∧ fs = fs' ++ [f] ∧ E = [.t tk, .o r (.cells (xs ++ [sl tk f]))] ∧ SLs xs fs' := by
  cases h with
  | nil => exact .inl ⟨rfl, rfl, rfl⟩
  | row r xs fs tk f h => exact .inr ⟨r, xs, fs, tk, f, rfl, rfl, rfl, h⟩
theorem OutR.none_of {v : AVal} {fs : List (List UInt8)} {E : List HE} (h : OutR v fs E) (hn : fs = []) : v = .slice 1 [] .full ∧ E = [] := by
  rcases h.split with ⟨h1, _, h2⟩ | ⟨r, xs, fs', tk, f, _, h2, _⟩
  · exact ⟨h1, h2⟩
  · rw [hn] at h2; simp at h2
theorem OutR.row_of {v : AVal} {fs : List (List UInt8)} {E : List HE} (h : OutR v fs E) (hn : fs ≠ []) : ∃ r xs fs' tk f, v = .ms r 1 0 (fs'.length + 1) ∧ fs = fs' ++ [f] ∧ E = [.t tk, .o r (.cells (xs ++ [sl tk f]))] ∧ SLs xs fs' := by
  rcases h.split with ⟨_, h1, _⟩ | h
  · exact absurd h1 hn
  · exact h
def byD (B : List Int) (k : Nat) : UInt8 := UInt8.ofNat (B[k]?.getD 0).toNat
def addLast (l : List (List UInt8)) (b : UInt8) : List (List UInt8) := l.dropLast ++ [(l.getLast?.getD []) ++ [b]]
theorem addLast_snoc (l : List (List UInt8)) (f : List UInt8) (b : UInt8) : addLast (l ++ [f]) b = l ++ [f ++ [b]] := by
  unfold addLast
  rw [List.dropLast_concat, List.getLast?_concat]; rfl
def tkD (d : DP) : Nat → List (List UInt8)
  | 0 => []
  | k + 1 => if k = 0 ∨ bitT d.G k = true then tkD d k ++ [[byD d.B k]] else addLast (tkD d k) (byD d.B k)
theorem tkD_ne (d : DP) : ∀ k, tkD d (k + 1) ≠ [] := fun k h => by
  unfold tkD at h
  split at h
  · simp at h
  · unfold addLast at h; simp at h
theorem tkD_len (d : DP) : ∀ k, (tkD d k).length ≤ k
  | 0 => Nat.le_refl _
  | k + 1 => by
    have := tkD_len d k
    unfold tkD
    split
    · rw [List.length_append, List.length_singleton]; omega
    · unfold addLast
      rw [List.length_append, List.length_dropLast, List.length_singleton]; omega
theorem tkD_sum (d : DP) : ∀ k, ∀ f ∈ tkD d k, f.length ≤ k
  | 0, f, h => by simp [tkD] at h
  | k + 1, f, h => by
    unfold tkD at h
    split at h
    · rcases List.mem_append.1 h with h | h
      · have := tkD_sum d k f h; omega
      · rw [List.mem_singleton.1 h]; simp
    · unfold addLast at h
      rcases List.mem_append.1 h with h | h
      · have := tkD_sum d k f (List.dropLast_subset _ h); omega
      · rw [List.mem_singleton.1 h, List.length_append, List.length_singleton]
        cases hq : (tkD d k).getLast? with
        | none => simp
        | some g =>
          have := tkD_sum d k g (List.mem_of_getLast? hq)
          simpa using this
def fiD (d : DP) : Int := (if d.wi = true then 2 else 0) + (if d.cu = true then 1 else 0)
theorem cnt_all {L : List Bool} {n : Nat} (h : cntT L (0, (n : Int)) = n) : ∀ i, i < n → bitT L i = true := by
  unfold cntT at h
  dsimp only at h
  rw [Int.toNat_natCast] at h
  have h2 : (List.range n).countP (cntG L 0) = (List.range n).length := by rw [h, List.length_range]
  intro i hi
  have := List.countP_eq_length.1 h2 i (List.mem_range.2 hi)
  unfold cntG at this
  rw [Bool.and_eq_true] at this
  exact this.2
theorem by_val {B : List Int} {i : Nat} (h : i < B.length) (h0 : 0 ≤ B[i]) (h1 : B[i] < 256) : AVal.v (.int .u8 B[i]) = byteV (byD B i) := by
  unfold byD byteV
  rw [List.getElem?_eq_getElem h]
  have : ((UInt8.ofNat (B[i]).toNat).toNat : Int) = B[i] := by
    rw [UInt8.toNat_ofNat']
    omega
  show AVal.v (.int .u8 B[i]) = .v (.int .u8 (((UInt8.ofNat ((some B[i]).getD 0).toNat).toNat : Nat) : Int))
  rw [show (some B[i]).getD 0 = B[i] from rfl, this]
section
variable {σb σ : AHeap} {ix : Nat} {tk : Tok} {l : List DP} {F : List HE}
theorem eTakeNone (H : Hp σb (.o ix (.cells (dbC tk l)) :: F) σ) (hl : l.length ≤ 10000) (sn : Int) (h : findE l sn = -1) :
    ACalls Tryz.prog i_bowlineref24_Buffer_Take [.ptr ix 0, i64v sn] σ fun v σ' => v = .tup [i64v 0, lists .none [], i64v 4] ∧ σ' = σ := by
  refine km_bowlineref24_Buffer_Take rfl ?_
  (refine wX ?_)
  refine acall (eFind (H.get (k := 0) rfl) (by omega) sn) ?_
  rintro _ σ_ ⟨rfl, e_⟩
  obtain rfl := e_.symm
  refine ⟨?_, Ext.refl _⟩
  (refine wX ?_)
  rw [h]
  (refine wX ?_)
  skip
  exact aret (VLe.tup (VLe.cons (VLe.refl _) (VLe.cons (VLe.slice _ _ _) fun _ _ h => h))) (Sub.refl _) ⟨rfl, rfl⟩
theorem eTakeShort (H : Hp σb (.o ix (.cells (dbC tk l)) :: F) σ) (hl : l.length ≤ 10000) (sn : Int) {i : Nat} (hi : i < l.length) (h : findE l sn = i) (hok : l[i].Ok) (hw : wholeD l[i] = false) :
    ACalls Tryz.prog i_bowlineref24_Buffer_Take [.ptr ix 0, i64v sn] σ fun v σ' => v = .tup [i64v 0, lists .none [], i64v 8] ∧ σ' = σ := by
  have hget := get_dp (t := .none) hi
  generalize l[i] = d at *
  have hbl := hok.bl
  have hxe := hok.e
  refine km_bowlineref24_Buffer_Take rfl ?_
  have b1 := H.get (k := 0) rfl
  clear H
  have H := Hp.nil σ
  (refine wX ?_)
  refine acall (eFind b1 (by omega) sn) ?_
  rintro _ σ_ ⟨rfl, e_⟩
  obtain rfl := e_.symm
  refine ⟨?_, Ext.refl _⟩
  (refine wX ?_)
  rw [h]
  (refine wX ?_)
  (repeat ((first | refine zN (by omega) ?_ | refine zB H b1 rfl ?_); (refine wX ?_)))
  refine aget (by omega) hget ?_
  (refine wX ?_)
  (repeat ((refine acellA ?_); (refine wX ?_)))
  refine hnew H rfl ?_
  clear H
  intro i8 τ H
  (refine wX ?_)
  (repeat ((first | (apply zA H; (· repeat first | exact .h | apply AtK.t)) | (apply zS H; (· repeat first | exact .h | apply AtK.t); (· rfl); (conv => whnf); clear H; intro τ H)); (refine wX ?_)))
  refine acall (eWholeD .none d τ (by omega) (by omega)) ?_
  rintro _ σ_ ⟨rfl, e_⟩
  obtain rfl := e_.symm
  refine ⟨?_, Ext.refl _⟩
  (refine wX ?_)
  rw [hw]
  (refine wX ?_)
  skip
  exact aret (VLe.tup (VLe.cons (VLe.refl _) (VLe.cons (VLe.slice _ _ _) fun _ _ h => h))) H.sub ⟨rfl, rfl⟩
set_option maxHeartbeats 16000000 in
theorem eTakeM (H : Hp σb (.o ix (.cells (dbC tk l)) :: F) σ) (hl : l.length ≤ 10000) (sn : Int) {i0 : Nat} (hi0 : i0 < l.length) (h : findE l sn = i0) (hok : l[i0].Ok) (hw : wholeD l[i0] = true) (h1e : 1 ≤ l[i0].e) :
    ACalls Tryz.prog i_bowlineref24_Buffer_Take [.ptr ix 0, i64v sn] σ fun v σ' => ∃ r xs n, v = .tup [i64v (fiD l[i0]), .ms r 1 0 n, i64v 0] ∧ SLs xs (tkD l[i0] l[i0].e.toNat) ∧ n = xs.length ∧ ∃ tk' l', Hp σb (.o r (.cells xs) :: .o ix (.cells (dbC tk' l')) :: F) σ' ∧
      ∃ A d B, l = A ++ d :: B ∧ d.sn = sn ∧ findE l sn = A.length ∧ l' = A ++ B := by
  have hget := get_dp (t := .none) hi0
  generalize l[i0] = d at *
  have hbl := hok.bl
  have hxe := hok.e
  refine km_bowlineref24_Buffer_Take rfl ?_
  have b1 := H.get (k := 0) rfl
  (refine wX ?_)
  refine acall (eFind b1 (by omega) sn) ?_
  rintro _ σ_ ⟨rfl, e_⟩
  obtain rfl := e_.symm
  refine ⟨?_, Ext.refl _⟩
  (refine wX ?_)
  rw [h]
  clear b1
  (refine wX ?_)
  (repeat ((first | refine zN (by omega) ?_ | (apply zL H; (· repeat first | exact .h | apply AtK.t); (· rfl))); (refine wX ?_)))
  refine aget (by omega) hget ?_
  (refine wX ?_)
  (repeat ((refine acellA ?_); (refine wX ?_)))
  refine hnew H rfl ?_
  clear H
  intro i8 τ H
  (refine wX ?_)
  (repeat ((first | (apply zA H; (· repeat first | exact .h | apply AtK.t)) | (apply zS H; (· repeat first | exact .h | apply AtK.t); (· rfl); (conv => whnf); clear H; intro τ H)); (refine wX ?_)))
  refine acall (eWholeD .none d τ (by omega) (by omega)) ?_
  rintro _ σ_ ⟨rfl, e_⟩
  obtain rfl := e_.symm
  refine ⟨?_, Ext.refl _⟩
  (refine wX ?_)
  rw [hw]
  obtain ⟨e, he⟩ : ∃ e : Nat, d.e = e := ⟨d.e.toNat, by omega⟩
  have hall : ∀ j, j < e → ∃ hj : j < d.B.length, 0 ≤ d.B[j] ∧ d.B[j] < 256 := fun j hj => by
    unfold wholeD at hw
    rw [Bool.and_eq_true] at hw
    have h3 := of_decide_eq_true hw.2
    rw [he] at h3
    have h4 := cnt_all (L := thereL d.B) (n := e) (by omega) j hj
    have h5 : j < d.B.length := by omega
    rw [thereL_bit h5] at h4
    exact ⟨h5, of_decide_eq_true h4, (hok.bv _ (List.getElem_mem h5)).2⟩
  replace H : Hp σb (.o i8 (.cells (dpC .none d)) :: .o ix (.cells (dbC tk l)) :: ([] ++ F)) τ := H
  (refine wX ?_)
  skip
  refine aloop (α := Nat × AVal × List HE × AHeap) (fun y => [(s9, y.2.1), (s10, i64v y.1)]) (fun y => y.2.2.2) (fun y => y.1 ≤ e ∧ OutR y.2.1 (tkD d y.1) y.2.2.1 ∧ Hp σb (.o i8 (.cells (dpC .none d)) :: .o ix (.cells (dbC tk l)) :: (y.2.2.1 ++ F)) y.2.2.2) (fun y => e - y.1)
    (0, .slice 1 [] .full, [], τ) ⟨Nat.zero_le _, .nil, H⟩ (Sub.refl _) ?_ ?_
  · (refine wX ?_)
    exact elX
  clear H
  rintro ⟨i, v, E, τ⟩ ⟨hi, hv, H⟩
  dsimp only at hi hv H ⊢
  (refine wX ?_)
  (repeat (((apply zL H; (· repeat first | exact .h | apply AtK.t); (· rfl))); (refine wX ?_)))
  by_cases hie : i < e
  case pos =>
    obtain ⟨hiB, hv0, hv1⟩ := hall i hie
    have hby := by_val hiB hv0 hv1
    have hiG : i < d.G.length := by omega
    have hln := tkD_len d i
    have hsm := tkD_sum d i
    (repeat ((refine zY (by omega) ?_); (refine wX ?_)))
    obtain ⟨fs0, hfs0⟩ : ∃ fs0, fs0 = tkD d i := ⟨_, rfl⟩
    rw [← hfs0] at hv hln hsm
    have hnew : (i = 0 ∨ bitT d.G i = true) ∨ ¬ (i = 0 ∨ bitT d.G i = true) := Classical.em _
    rcases hnew with hnew | hnew
    case inl =>
      have hstep : tkD d (i + 1) = fs0 ++ [[byD d.B i]] := by rw [tkD, if_pos hnew, ← hfs0]
      by_cases h0 : i = 0
      case' pos =>
        have hn0 : fs0 = [] := by rw [hfs0, h0]; rfl
        (repeat ((refine zY (by omega) ?_); (refine wX ?_)))
        obtain ⟨rfl, rfl⟩ := hv.none_of hn0
        refine rr_appN (b := 24) (ys := [.slice 1 [] .full]) H ⟨rfl, rfl⟩ (by simp) ?_
        clear H
        intro v2 E2 τ hv2 H
        obtain ⟨r, rfl, rfl⟩ := hv2.row_of (by simp)
        obtain ⟨xs2, hx2⟩ : ∃ xs2 : List AVal, xs2 = [] := ⟨_, rfl⟩
        have hs2 : SLs xs2 fs0 := by rw [hx2, hn0]; exact .nil
        have hx3 : [AVal.slice 1 [] .full] = xs2 ++ [sl .full []] := by rw [hx2]; rfl
        rw [hx3] at H ⊢
        obtain ⟨F2, hF2⟩ : ∃ F2 : List HE, F2 = [] ++ F := ⟨_, rfl⟩
        rw [← hF2] at H
        have hF : ∀ {L : List HE} {τ : AHeap}, Hp σb (L ++ F2) τ → Hp σb (L ++ F) τ := fun H => by rw [hF2] at H; exact H
        obtain ⟨fs1, hfs1⟩ : ∃ fs1 : List (List UInt8), fs1 = fs0 := ⟨_, rfl⟩
        rw [← hfs1] at hs2 hstep hln
        clear hx2 hx3 hfs1 hF2 hv2
      case' neg =>
        have hb : bitT d.G i = true := hnew.resolve_left h0
        (repeat ((first | refine zN (by omega) ?_ | (apply zL H; (· repeat first | exact .h | apply AtK.t); (· rfl))); (refine wX ?_)))
        refine aget (by omega) (get_boolsD hiG) ?_
        (refine wX ?_)
        refine acell rfl ?_
        rw [hb]
        (refine wX ?_)
        skip
        have hn0 : fs0 ≠ [] := by
          rw [hfs0]
          cases i with
          | zero => exact absurd rfl h0
          | succ i => exact tkD_ne d i
        obtain ⟨r0, xs, fs, tk1, f, rfl, rfl, rfl, hs⟩ := hv.row_of hn0
        (refine wX ?_)
        have hsl := hs.len
        rw [List.length_append, List.length_singleton] at hln
        refine rr_appM (b := 24) (ys := [.slice 1 [] .full]) (xs := xs ++ [sl tk1 f]) (H.front (k := 3) rfl) (by simp) (by rw [List.length_append, List.length_singleton]; omega) ⟨rfl, rfl⟩ (by rw [List.length_append, List.length_singleton, List.length_singleton]; omega) ?_
        clear H
        intro v2 E2 τ hv2 H
        obtain ⟨r, rfl, rfl⟩ := hv2.row_of (by simp)
        obtain ⟨xs2, hx2⟩ : ∃ xs2 : List AVal, xs2 = xs ++ [sl tk1 f] := ⟨_, rfl⟩
        have hs2 : SLs xs2 (fs ++ [f]) := by rw [hx2]; exact hs.snoc _ _
        rw [← hx2] at H ⊢
        obtain ⟨F2, hF2⟩ : ∃ F2 : List HE, F2 = .t tk1 :: F := ⟨_, rfl⟩
        replace H : Hp σb (.o r (.cells (xs2 ++ [sl .full []])) :: .o i8 (.cells (dpC .none d)) :: .o ix (.cells (dbC tk l)) :: F2) τ := by rw [hF2]; exact H
        have hF : ∀ {L : List HE} {τ : AHeap}, Hp σb (L ++ F2) τ → Hp σb (L ++ F) τ := fun H => by rw [hF2] at H; exact Hp.dropmid (B := [.t tk1]) H
        obtain ⟨fs1, hfs1⟩ : ∃ fs1 : List (List UInt8), fs1 = fs ++ [f] := ⟨_, rfl⟩
        rw [← hfs1] at hs2 hstep
        replace hln : fs1.length ≤ i := by rw [hfs1, List.length_append, List.length_singleton]; omega
        clear hx2 hfs1 hF2 hv2
      all_goals
        have hsl2 := hs2.len
        replace H : Hp σb (.o r (.cells (xs2 ++ [sl .full []])) :: .o i8 (.cells (dpC .none d)) :: .o ix (.cells (dbC tk l)) :: F2) τ := H
        (refine wX ?_)
        rw [show ∀ z : AVal, (xs2 ++ [z]).length = xs2.length + 1 from fun z => by simp]
        (repeat ((first | refine zI (by omega) ?_ | refine zX (by omega) (by omega) ?_); (refine wX ?_)))
        refine hload H (k := 0) rfl (x := sl .full []) (by rw [show 0 + (((xs2.length + 1 : Nat) : Int) - 1).toNat * 1 = xs2.length by omega, List.getElem?_append_right (Nat.le_refl _), Nat.sub_self]; rfl) ?_
        (refine wX ?_)
        (repeat (((apply zL H; (· repeat first | exact .h | apply AtK.t); (· rfl))); (refine wX ?_)))
        refine aget (by omega) (get_intsD hiB) ?_
        (refine wX ?_)
        refine acell rfl ?_
        (refine wX ?_)
        (repeat ((refine z8 (by omega) ?_); (refine wX ?_)))
        refine happF H (by simp) ?_
        clear H
        intro tk2 τ H
        (refine wX ?_)
        (repeat ((refine zX (by omega) (by omega) ?_); (refine wX ?_)))
        refine row_put H (k := 1) (q := xs2.length) (.t .h) (by omega) (by simp) rfl ?_
        (conv => whnf)
        clear H
        intro τ H
        rw [hby, show ∀ y, (xs2 ++ [sl .full []]).set xs2.length y = xs2 ++ [y] from fun y => by rw [List.set_append_right _ _ (Nat.le_refl _), Nat.sub_self]; rfl] at H
        replace H := hF (L := .o i8 (.cells (dpC .none d)) :: .o ix (.cells (dbC tk l)) :: [.t tk2, .o r (.cells (xs2 ++ [sl tk2 [byD d.B i]]))]) (Hp.mid (A := [.t tk2, .o r (.cells (xs2 ++ [sl tk2 [byD d.B i]]))]) (B := [.o i8 (.cells (dpC .none d)), .o ix (.cells (dbC tk l))]) (C := F2) H)
        (refine wX ?_)
        (repeat ((refine zI (by omega) ?_); (refine wX ?_)))
        refine ⟨(i + 1, .ms r 1 0 (xs2.length + 1), [.t tk2, .o r (.cells (xs2 ++ [sl tk2 [byD d.B i]]))], τ), ⟨hie, by rw [hstep, hsl2]; exact .row r xs2 fs1 tk2 _ hs2, H⟩, by dsimp only; omega, Sub.refl _, ?_⟩
        (refine wX ?_)
        exact elX
    case inr =>
      have hstep : tkD d (i + 1) = addLast fs0 (byD d.B i) := by rw [tkD, if_neg hnew, hfs0]
      have hi1 : i ≠ 0 := fun e => hnew (.inl e)
      have hb : bitT d.G i = false := by
        rcases (show bitT d.G i = false ∨ bitT d.G i = true by cases bitT d.G i <;> simp) with q | q
        · exact q
        · exact absurd (.inr q) hnew
      (repeat ((first | refine zN (by omega) ?_ | (apply zL H; (· repeat first | exact .h | apply AtK.t); (· rfl))); (refine wX ?_)))
      refine aget (by omega) (get_boolsD hiG) ?_
      (refine wX ?_)
      refine acell rfl ?_
      rw [hb]
      (refine wX ?_)
      skip
      have hn0 : fs0 ≠ [] := by
        rw [hfs0]
        cases i with
        | zero => exact absurd rfl hi1
        | succ i => exact tkD_ne d i
      obtain ⟨r, xs, fs, tk1, f, rfl, rfl, rfl, hs⟩ := hv.row_of hn0
      rw [addLast_snoc] at hstep
      have hsl := hs.len
      have hfl := hsm f (by simp)
      (refine wX ?_)
      rw [List.length_append, List.length_singleton] at hln
      (repeat ((first | refine zI (by omega) ?_ | refine zX (by omega) (by omega) ?_); (refine wX ?_)))
      refine hload H (k := 3) rfl (x := sl tk1 f) (by rw [show 0 + (((fs.length + 1 : Nat) : Int) - 1).toNat * 1 = xs.length by omega, List.getElem?_append_right (Nat.le_refl _), Nat.sub_self]; rfl) ?_
      (refine wX ?_)
      (repeat (((apply zL H; (· repeat first | exact .h | apply AtK.t); (· rfl))); (refine wX ?_)))
      refine aget (by omega) (get_intsD hiB) ?_
      (refine wX ?_)
      refine acell rfl ?_
      (refine wX ?_)
      (repeat ((refine z8 (by omega) ?_); (refine wX ?_)))
      apply zP H
      · (repeat first | exact .h | apply AtK.t)
      · exact (by rw [List.length_map, List.length_singleton]; omega)
      intro tk2
      (conv => whnf)
      clear H
      intro τ H
      (refine wX ?_)
      (repeat ((refine zX (by omega) (by omega) ?_); (refine wX ?_)))
      refine row_put H (k := 3) (q := xs.length) (.t (.t (.t .h))) (by omega) (by simp) rfl ?_
      (conv => whnf)
      clear H
      intro τ H
      rw [hby, show ∀ y, (xs ++ [sl tk1 f]).set xs.length y = xs ++ [y] from fun y => by rw [List.set_append_right _ _ (Nat.le_refl _), Nat.sub_self]; rfl, show (f.map byteV ++ [byteV (byD d.B i)]) = (f ++ [byD d.B i]).map byteV by rw [List.map_append]; rfl] at H
      (refine wX ?_)
      (repeat ((refine zI (by omega) ?_); (refine wX ?_)))
      refine ⟨(i + 1, .ms r 1 0 (fs.length + 1), [.t tk2, .o r (.cells (xs ++ [sl tk2 (f ++ [byD d.B i])]))], τ), ⟨hie, by rw [hstep]; exact .row r xs fs tk2 _ hs, H⟩, by dsimp only; omega, Sub.refl _, ?_⟩
      (refine wX ?_)
      exact elX
  obtain rfl : i = e := by omega
  have hn0 : tkD d i ≠ [] := by
    cases i with
    | zero => omega
    | succ i => exact tkD_ne d i
  obtain ⟨r, xs, fs, tk1, f, rfl, hfs, rfl, hs⟩ := hv.row_of hn0
  replace H : Hp σb (.o i8 (.cells (dpC .none d)) :: .o ix (.cells (dbC tk l)) :: .t tk1 :: .o r (.cells (xs ++ [sl tk1 f])) :: F) τ := H
  have hs2 : SLs (xs ++ [sl tk1 f]) (tkD d d.e.toNat) := by rw [he, Int.toNat_natCast, hfs]; exact hs.snoc _ _
  have hsl := hs.len
  rcases (show d.wi = false ∨ d.wi = true by cases d.wi <;> simp) with hwi | hwi
  all_goals
    rcases (show d.cu = false ∨ d.cu = true by cases d.cu <;> simp) with hcu | hcu
    all_goals
      (repeat ((first | refine zN (by omega) ?_ | (apply zL H; (· repeat first | exact .h | apply AtK.t); (· rfl))); (refine wX ?_)))
      rw [hwi]
      (refine wX ?_)
      (repeat (((apply zL H; (· repeat first | exact .h | apply AtK.t); (· rfl))); (refine wX ?_)))
      rw [hcu]
      (refine wX ?_)
      (repeat ((refine zI (by omega) ?_); (refine wX ?_)))
      refine acall (eDrop (H.front (k := 1) rfl) hl sn) ?_
      clear H
      rintro _ τ ⟨rfl, tk', l', H, hc⟩
      have hc2 := hc.resolve_left (fun q => by omega)
      replace H := Hp.dropmid (A := [.o r (.cells (xs ++ [sl tk1 f])), .o ix (.cells (dbC tk' l'))]) (B := [.o i8 (.cells (dpC .none d)), .t tk1]) (C := F) (H.front (k := 3) rfl)
      (refine wX ?_)
      exact aret (VLe.refl _) (Sub.refl _) ⟨r, _, _, by unfold fiD; rw [hwi, hcu]; rfl, hs2, by rw [List.length_append, List.length_singleton, hsl], tk', l', H, by rw [h] at hc2; exact hc2⟩
def takeDf (l : List DP) (sn : Int) : Int × List (List UInt8) := match l.find? fun d => d.sn == sn with
  | none => (0, [])
  | some d => if wholeD d = true then (fiD d, tkD d d.e.toNat) else (0, [])
def takeDc (l : List DP) (sn : Int) : Int := match l.find? fun d => d.sn == sn with
  | none => 4
  | some d => if wholeD d = true then 0 else 8
theorem eTake (H : Hp σb (.o ix (.cells (dbC tk l)) :: F) σ) (hl : l.length ≤ 10000) (hok : ∀ d ∈ l, d.Ok) (sn : Int) :
    ACalls Tryz.prog i_bowlineref24_Buffer_Take [.ptr ix 0, i64v sn] σ fun v σ' => v = .tup [i64v (takeDf l sn).1, lists .none (takeDf l sn).2, i64v (takeDc l sn)] ∧ ∃ tk' l', Hp σb (.o ix (.cells (dbC tk' l')) :: F) σ' ∧
      ((takeDc l sn ≠ 0 ∧ l' = l) ∨ (takeDc l sn = 0 ∧ ∃ A d B, l = A ++ d :: B ∧ d.sn = sn ∧ findE l sn = A.length ∧ l' = A ++ B)) := by
  unfold takeDf takeDc
  rcases find_at l sn with ⟨h1, h2⟩ | ⟨i, hi, h1, h2⟩
  · rw [h2]
    refine acall_less (eTakeNone H hl sn h1) ?_
    rintro _ σ' ⟨rfl, rfl⟩
    exact ⟨_, _, VLe.refl _, Sub.refl _, rfl, tk, l, H, .inl ⟨by decide, rfl⟩⟩
  rw [h2]
  dsimp only
  have hd := hok _ (List.getElem_mem hi)
  rcases (show wholeD l[i] = false ∨ wholeD l[i] = true by cases wholeD l[i] <;> simp) with hw | hw
  · rw [hw]
    refine acall_less (eTakeShort H hl sn hi h1 hd hw) ?_
    rintro _ σ' ⟨rfl, rfl⟩
    exact ⟨_, _, VLe.refl _, Sub.refl _, rfl, tk, l, H, .inl ⟨by decide, rfl⟩⟩
  · rw [if_pos hw, if_pos hw]
    have he : 1 ≤ l[i].e := by
      rcases hd.e with h | h
      · unfold wholeD at hw; rw [h] at hw; simp at hw
      · exact h.1
    refine acall_freezeA (eTakeM H hl sn hi h1 hd hw he) ?_
    rintro v σ' ⟨r, xs, n, rfl, hs, hn, tk', l', H', hc⟩
    exact .inr ⟨r, 1, n, xs, _, by rw [hs.flat]; exact H'.get (k := 0) rfl, hn.symm, hs.one, fun κ u hz h => tup_map1 (fun q hq => hs.lists (hz q hq)) h, rfl, tk', l', H'.del_head, .inr ⟨rfl, hc⟩⟩
end
end Go.Proofs.YtgbpjbpdpgbngaaGreat
/-
  What came in parts: a piece, and the document's beside it; plain.
-/
namespace Go.Proofs.YtgbpjbpdpgbngaaGreat
set_option maxRecDepth 20000
open Go Go.Am

def gI (B : List Int) (i : Nat) : Int := (B[i]?).getD (-1)
theorem gI_at {B : List Int} {i : Nat} (h : i < B.length) : gI B i = B[i] := by unfold gI; rw [List.getElem?_eq_getElem h]; rfl
theorem gI_no {B : List Int} {i : Nat} (h : B.length ≤ i) : gI B i = -1 := by unfold gI; rw [List.getElem?_eq_none h]; rfl
theorem there_gI (B : List Int) (i : Nat) : bitT (thereL B) i = decide (0 ≤ gI B i) := by
  by_cases h : i < B.length
  · rw [thereL_bit h, gI_at h]
  · rw [gI_no (by omega), bitT_no (by rw [thereL_len]; omega)]; rfl
theorem gI_widen (B : List Int) (n i : Nat) : gI (widenB B n) i = gI B i := by
  unfold gI widenB
  by_cases h : i < B.length
  · rw [List.getElem?_append_left h]
  · rw [List.getElem?_append_right (by omega), List.getElem?_replicate, List.getElem?_eq_none (by omega : B.length ≤ i)]
    split <;> rfl
theorem gI_fill {o : Nat} {dd : List UInt8} {W : List Int} : ∀ {k i : Nat}, k ≤ dd.length → o + dd.length ≤ W.length → gI (fillD o dd W k) i = if o ≤ i ∧ i < o + k ∧ gI W i < 0 then (((dd[i - o]?.getD 0).toNat : Nat) : Int) else gI W i
  | 0, i, _, _ => by rw [if_neg (by omega)]; rfl
  | k + 1, i, hk, hW => by
    have ih := fun i => gI_fill (o := o) (dd := dd) (W := W) (k := k) (i := i) (by omega) hW
    have hlen := fillD_len o dd W k
    have hok : o + k < (fillD o dd W k).length := by omega
    have e0 : ((fillD o dd W k)[o + k]?.getD 0) = gI W (o + k) := by
      have := ih (o + k)
      rw [if_neg (by omega), gI_at hok] at this
      rw [List.getElem?_eq_getElem hok]; exact this
    rw [fillD, e0]
    by_cases hneg : gI W (o + k) < 0
    · rw [if_pos hneg]
      by_cases hi : i = o + k
      · subst hi
        rw [if_pos ⟨by omega, by omega, hneg⟩, gI_at (by rw [List.length_set]; exact hok), List.getElem_set_self, show o + k - o = k by omega]
      · have : gI ((fillD o dd W k).set (o + k) (((dd[k]?.getD 0).toNat : Nat) : Int)) i = gI (fillD o dd W k) i := by
          unfold gI; rw [List.getElem?_set_ne (fun e => hi e.symm)]
        rw [this, ih i]
        by_cases hc : o ≤ i ∧ i < o + k ∧ gI W i < 0
        · rw [if_pos hc, if_pos ⟨hc.1, by omega, hc.2.2⟩]
        · rw [if_neg hc, if_neg (fun g => hc ⟨g.1, by omega, g.2.2⟩)]
    · rw [if_neg hneg, ih i]
      by_cases hi : i = o + k
      · subst hi
        rw [if_neg (by omega), if_neg (fun g => hneg g.2.2)]
      · by_cases hc : o ≤ i ∧ i < o + k ∧ gI W i < 0
        · rw [if_pos hc, if_pos ⟨hc.1, by omega, hc.2.2⟩]
        · rw [if_neg hc, if_neg (fun g => hc ⟨g.1, by omega, g.2.2⟩)]
theorem gI_with {d : DP} {p : Pk} (i : Nat) : gI (withB d p) i = if p.off.toNat ≤ i ∧ i < endP p ∧ gI d.B i < 0 then (((p.fs.flatten[i - p.off.toNat]?.getD 0).toNat : Nat) : Int) else gI d.B i := by
  have hfl : p.fs.flatten.length = total p.fs := rfl
  unfold withB
  rw [← hfl, gI_fill (Nat.le_refl _) (by unfold widenB endP; rw [List.length_append, List.length_replicate]; omega), gI_widen, hfl]
  rfl
theorem there_with {d : DP} {p : Pk} (i : Nat) : bitT (thereL (withB d p)) i = (decide (p.off.toNat ≤ i ∧ i < endP p) || bitT (thereL d.B) i) := by
  rw [there_gI, there_gI, gI_with]
  by_cases hc : p.off.toNat ≤ i ∧ i < endP p
  · rw [decide_eq_true hc, Bool.true_or]
    by_cases hn : gI d.B i < 0
    · rw [if_pos ⟨hc.1, hc.2, hn⟩]; exact decide_eq_true (by omega)
    · rw [if_neg (fun g => hn g.2.2)]; exact decide_eq_true (by omega)
  · rw [decide_eq_false hc, Bool.false_or, if_neg (fun g => hc ⟨g.1, g.2.1⟩)]
/-- A piece, and the document's. -/
structure RelP (x : PV) (d : DP) : Prop where
  sn : d.sn = x.sn
  bl : d.B.length = x.D.length
  rel : Rel x.l (thereL d.B)
  val : ∀ i, 0 ≤ gI d.B i → gI d.B i = (((x.D[i]?.getD 0).toNat : Nat) : Int)
  e : d.e = x.e
  em : ∀ k : Nat, hasE x.em k = bitT d.G k
  fi : x.fi = fiD d
theorem relP_fresh (sn : Int) : RelP (freshV sn) (freshD sn) :=
  ⟨rfl, rfl, ⟨Nat.zero_le _, fun p => ⟨fun ⟨a, ha, _⟩ => (by cases ha), fun h => absurd (bitT_lt h.2) (Nat.not_lt_zero _)⟩⟩, fun i h => absurd h (by show ¬ (0 : Int) ≤ -1; omega), rfl, fun k => rfl, rfl⟩
theorem bit_set {l : List Bool} {q i : Nat} (h : q < l.length) : bitT (l.set q true) i = (decide (i = q) || bitT l i) := by
  unfold bitT
  rw [List.getElem?_set]
  by_cases e : q = i
  · subst e; rw [if_pos rfl, if_pos h, decide_eq_true rfl]; rfl
  · rw [if_neg e, decide_eq_false (fun h => e h.symm)]; rfl
theorem bit_widen (G : List Bool) (n i : Nat) : bitT (widenG G n) i = bitT G i := by
  unfold bitT widenG
  by_cases h : i < G.length
  · rw [List.getElem?_append_left h]
  · rw [List.getElem?_append_right (by omega), List.getElem?_replicate, List.getElem?_eq_none (by omega : G.length ≤ i)]
    split <;> rfl
theorem widenG_len (G : List Bool) (n : Nat) : (widenG G n).length = max G.length (n + 1) := by unfold widenG; rw [List.length_append, List.length_replicate]; omega
theorem bit_edgeN {p : Pk} {G : List Bool} (hG : endP p < G.length) {k : Nat} : ∀ m, (bitT (edgeN p G m) k = true ↔ bitT G k = true ∨ ∃ i, 0 < i ∧ i < m + 1 ∧ k = p.off.toNat + total (p.fs.take i))
  | 0 => ⟨.inl, fun h => h.elim id fun ⟨i, h1, h2, _⟩ => absurd h1 (by omega)⟩
  | m + 1 => by
    have ih := bit_edgeN (p := p) (G := G) hG (k := k) m
    have hl := edgeN_len p G m
    have ht := total_take_le p.fs (m + 1)
    rw [edgeN, bit_set (by unfold endP at hG; omega), Bool.or_eq_true, decide_eq_true_iff, ih]
    constructor
    · rintro (h | h | ⟨i, h1, h2, h3⟩)
      · exact .inr ⟨m + 1, by omega, by omega, h⟩
      · exact .inl h
      · exact .inr ⟨i, h1, by omega, h3⟩
    · rintro (h | ⟨i, h1, h2, h3⟩)
      · exact .inr (.inl h)
      · by_cases hi : i = m + 1
        · subst hi; exact .inl h3
        · exact .inr (.inr ⟨i, h1, by omega, h3⟩)
theorem fi_cases {n : Int} (h : 0 ≤ n ∧ n ≤ 3) : n = 0 ∨ n = 1 ∨ n = 2 ∨ n = 3 := by omega
theorem and2 {n : Int} (h : 0 ≤ n ∧ n ≤ 3) : bitsOp .and .i64 n 2 = if 2 ≤ n then 2 else 0 := by
  rcases fi_cases h with rfl | rfl | rfl | rfl <;> decide +kernel
theorem and1 {n : Int} (h : 0 ≤ n ∧ n ≤ 3) : bitsOp .and .i64 n 1 = if n % 2 = 1 then 1 else 0 := by
  rcases fi_cases h with rfl | rfl | rfl | rfl <;> decide +kernel
theorem bit_with {d : DP} {p : Pk} (hr : rightB p = true) (k : Nat) (ends : Bool) : bitT (withG d p ends) k = true ↔ bitT d.G k = true ∨ (p.off ≠ 0 ∧ bitsOp .and .i64 p.fi 2 = 0 ∧ (k : Int) = p.off) ∨ (∃ i, 0 < i ∧ i < p.fs.length ∧ (k : Int) = p.off + (total (p.fs.take i) : Int)) ∨ (ends = false ∧ bitsOp .and .i64 p.fi 1 = 0 ∧ (k : Int) = p.off + (total p.fs : Int)) := by
  obtain ⟨ho, hfi, hn, ht, hpos⟩ := rangesR hr
  have hw := widenG_len d.G (endP p)
  have h1 := edge1_len p (widenG d.G (endP p))
  have h3 := edgeN_len p (edge1 p (widenG d.G (endP p))) (p.fs.length - 1)
  have hnf : 0 < p.fs.length := by
    rcases Nat.eq_zero_or_pos p.fs.length with h | h
    · rw [List.length_eq_zero_iff.1 h] at hpos; exact absurd hpos (by decide)
    · exact h
  have e1 : bitT (edge1 p (widenG d.G (endP p))) k = true ↔ bitT d.G k = true ∨ (p.off ≠ 0 ∧ bitsOp .and .i64 p.fi 2 = 0 ∧ (k : Int) = p.off) := by
    rw [and2 hfi]
    unfold edge1
    by_cases h0 : p.off = 0
    · rw [if_pos h0, bit_widen]; simp [h0]
    · rw [if_neg h0]
      by_cases h2 : p.fi < 2
      · rw [if_pos h2, bit_set (by unfold endP at hw ⊢; omega), Bool.or_eq_true, decide_eq_true_iff, bit_widen, if_neg (by omega)]
        constructor
        · rintro (h | h)
          · exact .inr ⟨h0, rfl, by omega⟩
          · exact .inl h
        · rintro (h | ⟨_, _, h⟩)
          · exact .inr h
          · exact .inl (by omega)
      · rw [if_neg h2, bit_widen, if_pos (by omega)]
        exact ⟨.inl, fun h => h.elim id fun g => absurd g.2.1 (by decide)⟩
  have eN : bitT (edgeN p (edge1 p (widenG d.G (endP p))) (p.fs.length - 1)) k = true ↔ bitT d.G k = true ∨ (p.off ≠ 0 ∧ bitsOp .and .i64 p.fi 2 = 0 ∧ (k : Int) = p.off) ∨ (∃ i, 0 < i ∧ i < p.fs.length ∧ (k : Int) = p.off + (total (p.fs.take i) : Int)) := by
    rw [bit_edgeN (by omega), e1, or_assoc]
    have : (∃ i, 0 < i ∧ i < p.fs.length - 1 + 1 ∧ k = p.off.toNat + total (p.fs.take i)) ↔ (∃ i, 0 < i ∧ i < p.fs.length ∧ (k : Int) = p.off + (total (p.fs.take i) : Int)) :=
      ⟨fun ⟨i, a, b, c⟩ => ⟨i, a, by omega, by omega⟩, fun ⟨i, a, b, c⟩ => ⟨i, a, by omega, by omega⟩⟩
    rw [this]
  unfold withG edgeZ
  rw [and1 hfi] at *
  cases ends
  · rw [if_neg (by simp)]
    by_cases h2 : p.fi % 2 = 0
    · rw [if_pos h2, bit_set (by omega), Bool.or_eq_true, decide_eq_true_iff, eN, if_neg (by omega)]
      constructor
      · rintro (h | h | h | h)
        · exact .inr (.inr (.inr ⟨rfl, rfl, by unfold endP at h; omega⟩))
        · exact .inl h
        · exact .inr (.inl h)
        · exact .inr (.inr (.inl h))
      · rintro (h | h | h | h)
        · exact .inr (.inl h)
        · exact .inr (.inr (.inl h))
        · exact .inr (.inr (.inr h))
        · exact .inl (by have := h.2.2; unfold endP; omega)
    · rw [if_neg h2, eN, if_pos (by omega)]
      constructor
      · rintro (h | h | h)
        · exact .inl h
        · exact .inr (.inl h)
        · exact .inr (.inr (.inl h))
      · rintro (h | h | h | h)
        · exact .inl h
        · exact .inr (.inl h)
        · exact .inr (.inr h)
        · exact absurd h.2.1 (by decide)
  · rw [if_pos rfl, eN]
    constructor
    · rintro (h | h | h)
      · exact .inl h
      · exact .inr (.inl h)
      · exact .inr (.inr (.inl h))
    · rintro (h | h | h | h)
      · exact .inl h
      · exact .inr (.inl h)
      · exact .inr (.inr h)
      · cases h.1
end Go.Proofs.YtgbpjbpdpgbngaaGreat
/-
  What came in parts: a piece, and the document's beside it: what is put in, and taken; plain.
-/
namespace Go.Proofs.YtgbpjbpdpgbngaaGreat
set_option maxRecDepth 20000
open Go Go.Am

theorem endP_int {p : Pk} (hr : rightB p = true) : (endP p : Int) = p.off + (total p.fs : Int) := by
  have := (rangesR hr).1
  unfold endP; omega
theorem spanP_ok {p : Pk} (hr : rightB p = true) : spRight (spanP p) = true := by
  obtain ⟨ho, hfi, hn, ht, hpos⟩ := rangesR hr
  refine spRight_iff.2 ⟨?_, ?_, ?_⟩ <;> unfold spanP <;> dsimp only <;> omega
theorem with_withs {d : DP} {p : Pk} (hr : rightB p = true) : Withs (thereL d.B) (thereL (withB d p)) (spanP p) true := by
  obtain ⟨ho, hfi, hn, ht, hpos⟩ := rangesR hr
  have he := endP_int hr
  refine ⟨?_, fun i => ?_⟩
  · rw [thereL_len, thereL_len, withB_len]
    unfold spanP; dsimp only; omega
  · rw [there_with]
    unfold spanP; dsimp only
    by_cases hc : p.off.toNat ≤ i ∧ i < endP p
    · rw [decide_eq_true hc, if_pos (by omega)]; rfl
    · rw [decide_eq_false hc, if_neg (by omega)]; rfl
theorem fi_put {x : PV} {d : DP} (h : x.fi = fiD d) {p : Pk} (hfi : 0 ≤ p.fi ∧ p.fi ≤ 3) (ends : Bool) : noteF p ends x.fi = fiD (withD d p ends) := by
  have e0 : x.fi = fiV d.wi d.cu := h
  have e1 : noteF1 p x.fi = fiV (withD d p ends).wi d.cu := by
    unfold noteF1
    show _ = fiV (if p.off = 0 then (d.wi || decide (2 ≤ p.fi)) else d.wi) d.cu
    by_cases h0 : p.off = 0
    · rw [if_pos h0, if_pos h0, e0, and2 hfi]
      have := fi_or2 d.wi d.cu (decide (2 ≤ p.fi))
      by_cases h2 : 2 ≤ p.fi
      · rw [decide_eq_true h2] at this ⊢; rw [if_pos h2]; exact this
      · rw [decide_eq_false h2] at this ⊢; rw [if_neg h2]; exact this
    · rw [if_neg h0, if_neg h0, e0]
  unfold noteF
  show _ = fiV (withD d p ends).wi (if ends = true then (d.cu || decide (p.fi % 2 = 1)) else d.cu)
  cases ends
  · rw [if_neg (by simp), if_neg (by simp), e1]
  · rw [if_pos rfl, if_pos rfl, e1, and1 hfi]
    have := fi_or1 (withD d p true).wi d.cu (decide (p.fi % 2 = 1))
    by_cases h2 : p.fi % 2 = 1
    · rw [decide_eq_true h2] at this ⊢; rw [if_pos h2]; exact this
    · rw [decide_eq_false h2] at this ⊢; rw [if_neg h2]; exact this
theorem one_has {l : List Sp} (h : SOk l) {i : Nat} (hi : i < 65536) : hasS ((i : Int), (i : Int) + 1) l = true ↔ hasP l i := by
  rw [hasS_iff h]
  constructor
  · rintro ⟨_, h2⟩; exact h2 _ (Int.le_refl _) (by dsimp only; omega)
  · intro h2
    refine ⟨spRight_iff.2 ⟨by dsimp only; omega, by dsimp only; omega, by dsimp only; omega⟩, fun p h3 h4 => ?_⟩
    dsimp only at h3 h4
    rw [show p = (i : Int) by omega]; exact h2
theorem RelP.has {x : PV} {d : DP} (h : RelP x d) (so : SOk x.l) {i : Nat} (hi : i < 65536) : hasS ((i : Int), (i : Int) + 1) x.l = decide (0 ≤ gI d.B i) := by
  rw [Bool.eq_iff_iff, one_has so hi, h.rel.has, Int.toNat_natCast, there_gI]
  exact ⟨fun g => g.2, fun g => ⟨by omega, g⟩⟩
theorem wideB_get (D : List UInt8) (n i : Nat) : ((wideB D n)[i]?).getD 0 = (D[i]?).getD 0 := by
  unfold wideB
  split
  · by_cases h : i < D.length
    · rw [List.getElem?_append_left h]
    · rw [List.getElem?_append_right (by omega), List.getElem?_replicate, List.getElem?_eq_none (by omega : D.length ≤ i)]
      split <;> rfl
  · rfl
theorem fillB_get {l : List Sp} {o : Nat} {dd D : List UInt8} (i : Nat) : ((fillB l o dd D)[i]?).getD 0 = if o ≤ i ∧ i < o + dd.length ∧ hasS ((i : Int), (i : Int) + 1) l = false then (dd[i - o]?).getD 0 else (D[i]?).getD 0 := by
  unfold fillB
  rw [fillN_get (Nat.le_refl _) (by rw [wideB_len]; omega)]
  split
  · rfl
  · rw [wideB_get]
theorem RelP.put {x : PV} {d : DP} (h : RelP x d) (ok : x.Ok) {p : Pk} (hr : rightB p = true) (h0 : putK p x.l x.e = 0) : RelP (updV x p) (withD d p (endsP p)) := by
  obtain ⟨_, _, ha⟩ := putK_zero h0
  obtain ⟨ho, hfi, hn, ht, hpos⟩ := rangesR hr
  have he := endP_int hr
  have hfl : p.fs.flatten.length = total p.fs := rfl
  have hee : endsB p = endsP p := rfl
  obtain ⟨n1, r1⟩ := rel_add ok.so h.rel (spanP_ok hr) (with_withs (d := d) hr)
  refine ⟨h.sn, ?_, ?_, fun i hi => ?_, ?_, fun k => ?_, ?_⟩
  · show (withB d p).length = (fillB x.l p.off.toNat p.fs.flatten x.D).length
    rw [withB_len, fillB_len, h.bl]; rfl
  · show Rel (addS (spanP p) x.l) (thereL (withB d p))
    rw [(addC_zero ha).2.2]; exact r1
  · show gI (withB d p) i = ((((fillB x.l p.off.toNat p.fs.flatten x.D)[i]?.getD 0).toNat : Nat) : Int)
    have hi : 0 ≤ gI (withB d p) i := hi
    rw [fillB_get, gI_with]
    rw [gI_with] at hi
    by_cases hc : p.off.toNat ≤ i ∧ i < endP p
    · have hlt : i < 65536 := by omega
      rw [h.has ok.so hlt]
      by_cases hn2 : gI d.B i < 0
      · rw [if_pos ⟨hc.1, hc.2, hn2⟩, if_pos ⟨hc.1, by rw [hfl]; exact hc.2, decide_eq_false (by omega)⟩]
      · rw [if_neg (fun g => hn2 g.2.2), if_neg (fun g => by rw [decide_eq_true (by omega : 0 ≤ gI d.B i)] at g; cases g.2.2)]
        exact h.val i (by omega)
    · rw [if_neg (fun g => hc ⟨g.1, g.2.1⟩)] at hi ⊢
      rw [if_neg (fun g => hc ⟨g.1, by have := g.2.1; unfold endP; omega⟩)]
      exact h.val i hi
  · show (if endsP p = true then (endP p : Int) else d.e) = noteE p (endsB p) x.e
    unfold noteE
    rw [hee, h.e, he]
  · show hasE (noteM p (endsB p) x.em) k = bitT (withG d p (endsP p)) k
    rw [Bool.eq_iff_iff, hasE_noteM, bit_with hr, h.em k, hee]
  · exact fi_put h.fi hfi _
theorem withG_len {d : DP} {p : Pk} {ends : Bool} : (withG d p ends).length = max d.G.length (endP p + 1) := by
  have h3 := edgeN_len p (edge1 p (widenG d.G (endP p))) (p.fs.length - 1)
  rw [edge1_len, widenG_len] at h3
  unfold withG edgeZ
  repeat' split
  · exact h3
  · rw [List.length_set]; exact h3
  · exact h3
theorem withD_ok {d : DP} (h : d.Ok) {p : Pk} (hr : rightB p = true) : (withD d p (endsP p)).Ok := by
  obtain ⟨ho, hfi, hn, ht, hpos⟩ := rangesR hr
  have hi := endP_int hr
  have hb := withB_len d p
  have hg := withG_len (d := d) (p := p) (ends := endsP p)
  have h1 := h.bl
  have h2 := h.gl
  refine ⟨?_, ?_, ?_, fun z hz => ?_⟩
  · show (withB d p).length ≤ 4000
    omega
  · show (withG d p (endsP p)).length ≤ 4001
    omega
  · show (if endsP p = true then (endP p : Int) else d.e) = -1 ∨ (1 ≤ (if endsP p = true then (endP p : Int) else d.e) ∧ (if endsP p = true then (endP p : Int) else d.e) ≤ 4000 ∧ (if endsP p = true then (endP p : Int) else d.e) < ((withG d p (endsP p)).length : Int) ∧ (if endsP p = true then (endP p : Int) else d.e) ≤ ((withB d p).length : Int))
    split
    · omega
    · have := h.e; omega
  · obtain ⟨i, hi, rfl⟩ := List.getElem_of_mem (show z ∈ withB d p from hz)
    rw [← gI_at hi, gI_with]
    have hbv : -1 ≤ gI d.B i ∧ gI d.B i < 256 := by
      by_cases h4 : i < d.B.length
      · rw [gI_at h4]; exact h.bv _ (List.getElem_mem h4)
      · rw [gI_no (by omega)]; omega
    split
    · have := (p.fs.flatten[i - p.off.toNat]?.getD 0).toNat_lt
      omega
    · exact hbv
theorem topL_mem {l : List Sp} (h : l ≠ []) : ∃ y ∈ l, topL l = y.2 := by
  rcases snoc_cases l with rfl | ⟨r, z, rfl⟩
  · exact absurd rfl h
  · exact ⟨z, by simp, by unfold topL; rw [List.getLast?_concat]⟩
theorem Nrm.below : ∀ {b : Int} {l : List Sp}, Nrm b l → ∀ y ∈ l, y.2 ≤ topL l
  | _, [], _, y, hy => by cases hy
  | b, [z], _, y, hy => by rw [List.mem_singleton.1 hy]; exact Int.le_refl _
  | b, z :: w :: l, h, y, hy => by
    have e : topL (z :: w :: l) = topL (w :: l) := by unfold topL; rw [List.getLast?_cons_cons]
    rw [e]
    have ih := Nrm.below (b := z.2) (l := w :: l) h.2.2.2
    rcases List.mem_cons.1 hy with rfl | hy
    · have h2 := Nrm.mem h.2.2.2 (List.mem_cons_self ..)
      have := ih w (List.mem_cons_self ..)
      omega
    · exact ih y hy
theorem topT_spec (L : List Bool) : ∀ n, (∀ j, topT L n ≤ j → j < n → bitT L j = false) ∧ (topT L n = 0 ∨ bitT L (topT L n - 1) = true)
  | 0 => ⟨fun j _ h => absurd h (Nat.not_lt_zero _), .inl rfl⟩
  | n + 1 => by
    obtain ⟨h1, h2⟩ := topT_spec L n
    unfold topT
    by_cases hb : bitT L n = true
    · rw [if_pos hb]
      exact ⟨fun j h3 h4 => by omega, .inr (by rw [Nat.add_sub_cancel]; exact hb)⟩
    · rw [if_neg hb]
      refine ⟨fun j h3 h4 => ?_, h2⟩
      by_cases hj : j = n
      · subst hj; simpa using hb
      · exact h1 j h3 (by omega)
theorem top_eq {l : List Sp} {M : List Bool} (h : SOk l) (k : Rel l M) : topL l = (topT M M.length : Int) := by
  obtain ⟨h1, h2⟩ := topT_spec M M.length
  have hup : ∀ j, bitT M j = true → j < topT M M.length := fun j hj => by
    rcases Nat.lt_or_ge j (topT M M.length) with q | q
    · exact q
    · have := h1 j q (bitT_lt hj)
      rw [hj] at this; cases this
  by_cases hl : l = []
  · subst hl
    rcases h2 with h2 | h2
    · rw [h2]; rfl
    · have := (k.has ((topT M M.length - 1 : Nat) : Int)).2 ⟨by omega, by rw [Int.toNat_natCast]; exact h2⟩
      exact (has_nil.1 this).elim
  · obtain ⟨y, hy, e⟩ := topL_mem hl
    have hn := Nrm.mem h.n hy
    have h3 : hasP l (y.2 - 1) := ⟨y, hy, by omega, by omega⟩
    have h4 := hup _ ((k.has _).1 h3).2
    rcases h2 with h2 | h2
    · omega
    · obtain ⟨z, hz, h5, h6⟩ := (k.has ((topT M M.length - 1 : Nat) : Int)).2 ⟨by omega, by rw [Int.toNat_natCast]; exact h2⟩
      have := h.n.below z hz
      omega
theorem RelP.top {x : PV} {d : DP} (h : RelP x d) (so : SOk x.l) : topL x.l = (topT (thereL d.B) d.B.length : Int) := by
  have := top_eq so h.rel
  rw [thereL_len] at this
  exact this
theorem RelP.miss {x : PV} {d : DP} (h : RelP x d) (so : SOk x.l) (hd : d.Ok) : missL x.l x.e = missO d := by
  unfold missL missO gapsT
  have hg := fun to => rel_gap so h.rel to
  have he := hd.e
  rw [← h.e]
  by_cases h1 : 0 ≤ d.e
  · rw [if_pos (by omega), if_pos h1, hg]
  · rw [if_neg (by omega), if_neg h1, h.top so, hg]
theorem RelP.whole {x : PV} {d : DP} (h : RelP x d) (so : SOk x.l) (hd : d.Ok) : wholeV x.l x.e = wholeD d := by
  unfold wholeV wholeD
  rw [← h.e]
  rcases hd.e with h1 | ⟨h1, h2, _⟩
  · rw [h1]; rfl
  · rw [decide_eq_true (by omega : d.e > 0), decide_eq_true (by omega : 0 ≤ d.e), Bool.true_and, Bool.true_and, rel_all so h.rel (spRight_iff.2 ⟨by dsimp only; omega, by dsimp only; omega, by dsimp only; omega⟩)]
    dsimp only
    rw [Int.sub_zero]
theorem RelP.code {x : PV} {d : DP} {l : List DP} {p : Pk} (h : RelP x d) (so : SOk x.l) (hd : d.Ok) (hx : pieceD l p.sn = d) : putK p x.l x.e = putDc l p := by
  unfold putK
  rcases (show rightB p = false ∨ rightB p = true by cases rightB p <;> simp) with hr | hr
  · rw [if_pos hr, put_1 hr]
  rw [if_neg (by rw [hr]; simp)]
  obtain ⟨ho, hfi, hn, ht, hpos⟩ := rangesR hr
  have hend := endP_int hr
  have hsp := spanP_ok hr
  have hee : endsB p = endsP p := rfl
  have he := hd.e
  have hb3 : ((x.e ≠ -1 ∧ ((spanP p).2 > x.e ∨ (endsB p = true ∧ (spanP p).2 ≠ x.e))) ∨ (endsB p = true ∧ topL x.l > (spanP p).2)) ↔ bad3 l p := by
    unfold bad3
    rw [hx, hee, h.top so, ← h.e]
    have e2 : (spanP p).2 = (endP p : Int) := hend.symm
    rw [e2]
    constructor
    · rintro (⟨a, b⟩ | ⟨a, b⟩)
      · exact .inl ⟨by omega, b⟩
      · exact .inr ⟨a, by omega⟩
    · rintro (⟨a, b⟩ | ⟨a, b⟩)
      · exact .inl ⟨by omega, b⟩
      · exact .inr ⟨a, by omega⟩
  unfold fitsC
  by_cases c1 : bad3 l p
  · rw [if_pos (hb3.2 c1), if_pos (by decide), put_3 hr c1]
  rw [if_neg (fun g => c1 (hb3.1 g))]
  have hcnt : hasS (spanP p) x.l = decide (((cntT (thereL (pieceD l p.sn).B) (p.off, (endP p : Int)) : Nat) : Int) = total p.fs) := by
    rw [rel_all so h.rel hsp, hx]
    unfold spanP
    dsimp only
    rw [hend, show p.off + (total p.fs : Int) - p.off = (total p.fs : Int) by omega]
  by_cases c2 : ((cntT (thereL (pieceD l p.sn).B) (p.off, (endP p : Int)) : Nat) : Int) = total p.fs
  · rw [decide_eq_true c2] at hcnt
    rw [hcnt, if_pos rfl, if_pos (by decide), put_12 hr c1 c2]
  rw [decide_eq_false c2] at hcnt
  rw [hcnt, if_neg (by simp)]
  obtain ⟨n1, r1⟩ := rel_add so h.rel hsp (with_withs (d := d) hr)
  have hrun := rel_run n1 r1
  rw [thereL_len] at hrun
  unfold addC spCode
  rw [if_pos hsp]
  by_cases c3 : (runT (thereL (withB (pieceD l p.sn) p)) true (withB (pieceD l p.sn) p).length).length > 2048
  · rw [put_5 hr c1 c2 c3]
    rw [hx, hrun] at c3
    rw [if_pos c3]
  · rw [put_0 hr c1 c2 c3]
    rw [hx, hrun] at c3
    rw [if_neg c3]
theorem RelP.byte {x : PV} {d : DP} (h : RelP x d) {k : Nat} (hk : k < d.B.length) (h0 : 0 ≤ d.B[k]) : ∃ hk2 : k < x.D.length, byD d.B k = x.D[k] := by
  have hk2 : k < x.D.length := by rw [← h.bl]; exact hk
  refine ⟨hk2, ?_⟩
  have hv := h.val k (by rw [gI_at hk]; exact h0)
  rw [gI_at hk, List.getElem?_eq_getElem hk2] at hv
  unfold byD
  rw [List.getElem?_eq_getElem hk]
  show UInt8.ofNat (d.B[k]).toNat = _
  rw [hv]
  show UInt8.ofNat (((x.D[k].toNat : Nat) : Int)).toNat = _
  rw [Int.toNat_natCast]
  exact UInt8.ofNat_toNat
/-- What is taken, so far. -/
theorem RelP.taken {x : PV} {d : DP} (h : RelP x d) {e : Nat} (he : d.e = e) (hall : ∀ k, k < e → ∃ hk : k < d.B.length, 0 ≤ d.B[k]) : ∀ k, k < e → tkD d (k + 1) = (takeN x.D x.em x.e k).1 ++ [(x.D.take (k + 1)).drop (takeN x.D x.em x.e k).2] ∧ (takeN x.D x.em x.e k).2 ≤ k
  | 0, hk => by
    obtain ⟨h1, h2⟩ := hall 0 hk
    obtain ⟨h3, h4⟩ := h.byte h1 h2
    refine ⟨?_, Nat.le_refl _⟩
    rw [tkD, if_pos (.inl rfl), h4]
    show [] ++ [[x.D[0]]] = [] ++ [(x.D.take 1).drop 0]
    rw [List.take_add_one, List.getElem?_eq_getElem h3]; rfl
  | k + 1, hk => by
    obtain ⟨ih, ih2⟩ := h.taken he hall k (by omega)
    obtain ⟨h1, h2⟩ := hall (k + 1) hk
    obtain ⟨h3, h4⟩ := h.byte h1 h2
    have et : x.D.take (k + 1 + 1) = x.D.take (k + 1) ++ [x.D[k + 1]] := by rw [List.take_add_one, List.getElem?_eq_getElem h3]; rfl
    have htl : (x.D.take (k + 1)).length = k + 1 := by rw [List.length_take]; omega
    have hne : ¬ ((k : Int) + 1 = x.e) := by rw [← h.e, he]; omega
    have hem : hasE x.em ((k : Int) + 1) = bitT d.G (k + 1) := h.em (k + 1)
    have eT : takeN x.D x.em x.e (k + 1) = if ((k : Int) + 1 = x.e ∨ hasE x.em ((k : Int) + 1) = true) then ((takeN x.D x.em x.e k).1 ++ [(x.D.take (k + 1)).drop (takeN x.D x.em x.e k).2], k + 1) else takeN x.D x.em x.e k := rfl
    rw [eT, hem]
    by_cases hb : bitT d.G (k + 1) = true
    · rw [if_pos (.inr hb), tkD, if_pos (.inr hb), ih, h4]
      refine ⟨?_, Nat.le_refl _⟩
      dsimp only
      rw [et, List.drop_left' htl]
    · rw [if_neg (by rintro (g | g) <;> contradiction), tkD, if_neg (by rintro (g | g) <;> first | omega | contradiction), ih, addLast_snoc, h4]
      refine ⟨?_, by omega⟩
      rw [et, List.drop_append_of_le_length (by omega)]
theorem RelP.take {x : PV} {d : DP} (h : RelP x d) (so : SOk x.l) (hd : d.Ok) (hw : wholeD d = true) : (takeN x.D x.em x.e x.e.toNat).1 = tkD d d.e.toNat := by
  have h1e : 1 ≤ d.e := by
    rcases hd.e with q | q
    · unfold wholeD at hw; rw [q] at hw; simp at hw
    · exact q.1
  obtain ⟨e, he⟩ : ∃ e : Nat, d.e = e := ⟨d.e.toNat, by omega⟩
  have hall : ∀ k, k < e → ∃ hk : k < d.B.length, 0 ≤ d.B[k] := fun k hk => by
    unfold wholeD at hw
    rw [Bool.and_eq_true] at hw
    have h3 := of_decide_eq_true hw.2
    rw [he] at h3
    have h4 := cnt_all (L := thereL d.B) (n := e) (by omega) k hk
    have h5 : k < d.B.length := by have := bitT_lt h4; rwa [thereL_len] at this
    rw [thereL_bit h5] at h4
    exact ⟨h5, of_decide_eq_true h4⟩
  have ht := (h.taken he hall (e - 1) (by omega)).1
  rw [← h.e, he, Int.toNat_natCast]
  obtain ⟨m, rfl⟩ : ∃ m, e = m + 1 := ⟨e - 1, by omega⟩
  rw [Nat.add_sub_cancel, ← h.e, he] at ht
  rw [ht]
  have eT : takeN x.D x.em ((m + 1 : Nat) : Int) (m + 1) = if ((m : Int) + 1 = ((m + 1 : Nat) : Int) ∨ hasE x.em ((m : Int) + 1) = true) then ((takeN x.D x.em ((m + 1 : Nat) : Int) m).1 ++ [(x.D.take (m + 1)).drop (takeN x.D x.em ((m + 1 : Nat) : Int) m).2], m + 1) else takeN x.D x.em ((m + 1 : Nat) : Int) m := rfl
  rw [eT, if_pos (.inl (by omega))]
end Go.Proofs.YtgbpjbpdpgbngaaGreat
/-
  What of fields lies between two places of their bytes; plain.
-/
namespace Go.Proofs.YtgbpjbpdpgbngaaGreat
open Go Go.Am

end Go.Proofs.YtgbpjbpdpgbngaaGreat
/-
  Packets that are cut anew: sizes, and where fields end.
-/
namespace Go.Proofs.YtgbpjbpdpgbngaaGreat
open Go Go.Am

theorem As10 (p : Pk) (σ : AHeap) : ACalls Tryz.prog i_bowlinelaw10_As [amV p] σ fun v σ' => v = amV p ∧ σ' = σ := by
  refine k_bowlinelaw10_As rfl ?_
  have H := Hp.nil σ
  (refine wX ?_)
  refine hnew H rfl ?_
  clear H
  intro i1 τ H
  (refine wX ?_)
  refine hnew H rfl ?_
  clear H
  intro i2 τ H
  (refine wX ?_)
  (repeat ((first | (apply zL H; (· repeat first | exact .h | apply AtK.t); (· rfl)) | (apply zA H; (· repeat first | exact .h | apply AtK.t)) | (apply zS H; (· repeat first | exact .h | apply AtK.t); (· rfl); (conv => whnf); clear H; intro τ H)); (refine wX ?_)))
  exact aret (VLe.refl _) H.sub ⟨rfl, rfl⟩
end Go.Proofs.YtgbpjbpdpgbngaaGreat
/-
  What came in parts: a buffer, and the document's beside it.
-/
namespace Go.Proofs.YtgbpjbpdpgbngaaGreat
set_option maxRecDepth 20000
open Go Go.Am

structure RelL (S : List PV) (l : List DP) : Prop where
  sd : ∀ x ∈ S, ∃ d ∈ l, RelP x d
  ds : ∀ d ∈ l, ∃ x ∈ S, RelP x d
  nd : (S.map (·.sn)).Nodup
  up : (l.map (·.sn)).Pairwise (· < ·)
theorem up_inj {l : List DP} (h : (l.map (·.sn)).Pairwise (· < ·)) {d e : DP} (hd : d ∈ l) (he : e ∈ l) (hs : d.sn = e.sn) : d = e := by
  obtain ⟨A, B, rfl⟩ := List.append_of_mem hd
  rw [List.map_append, List.map_cons, List.pairwise_append, List.pairwise_cons] at h
  rcases List.mem_append.1 he with he | he
  · have := h.2.2 _ (List.mem_map_of_mem he) _ (List.mem_cons_self ..)
    omega
  · rcases List.mem_cons.1 he with rfl | he
    · rfl
    · have := h.2.1.1 _ (List.mem_map_of_mem he)
      omega
theorem nd_inj : ∀ {S : List PV}, (S.map (·.sn)).Nodup → ∀ {x y : PV}, x ∈ S → y ∈ S → x.sn = y.sn → x = y
  | [], _, x, _, hx, _, _ => by cases hx
  | a :: S, h, x, y, hx, hy, e => by
    rw [List.map_cons, List.nodup_cons] at h
    rcases List.mem_cons.1 hx with rfl | hx <;> rcases List.mem_cons.1 hy with rfl | hy
    · rfl
    · exact absurd (by rw [e]; exact List.mem_map_of_mem (f := fun x : PV => x.sn) hy) h.1
    · exact absurd (by rw [← e]; exact List.mem_map_of_mem (f := fun x : PV => x.sn) ‹_›) h.1
    · exact nd_inj h.2 hx hy e
theorem RelL.find {S : List PV} {l : List DP} (h : RelL S l) (sn : Int) :
    (findS S sn = none ∧ l.find? (fun d => d.sn == sn) = none ∧ (∀ x ∈ S, x.sn ≠ sn) ∧ (∀ d ∈ l, d.sn ≠ sn)) ∨
    ∃ x d, findS S sn = some x ∧ l.find? (fun d => d.sn == sn) = some d ∧ RelP x d ∧ x ∈ S ∧ d ∈ l ∧ x.sn = sn ∧ d.sn = sn := by
  cases hf : findS S sn with
  | none =>
    have hn : ∀ x ∈ S, x.sn ≠ sn := fun x hx e => by
      have := List.find?_eq_none.1 hf x hx
      simp [e] at this
    have hd : ∀ d ∈ l, d.sn ≠ sn := fun d hd e => by
      obtain ⟨x, hx, r⟩ := h.ds d hd
      exact hn x hx (by rw [← r.sn, e])
    exact .inl ⟨rfl, List.find?_eq_none.2 fun d hd' => by simp [hd d hd'], hn, hd⟩
  | some x =>
    have hx := List.mem_of_find?_eq_some hf
    have hs : x.sn = sn := by have := List.find?_some hf; simpa using this
    obtain ⟨d, hd, r⟩ := h.sd x hx
    cases hl : l.find? (fun d => d.sn == sn) with
    | none =>
      have := List.find?_eq_none.1 hl d hd
      simp [r.sn, hs] at this
    | some e =>
      have he := List.mem_of_find?_eq_some hl
      have hes : e.sn = sn := by have := List.find?_some hl; simpa using this
      have : e = d := up_inj h.up he hd (by rw [hes, r.sn, hs])
      subst this
      exact .inr ⟨x, e, rfl, rfl, r, hx, he, hs, hes⟩
section
variable {S : List PV} {l : List DP}
theorem RelL.code (h : RelL S l) (ok : ∀ x ∈ S, x.Ok) (hok : ∀ d ∈ l, d.Ok) (p : Pk) : putS S p = putDc l p := by
  unfold putS lS eS
  rcases h.find p.sn with ⟨h1, h2, _⟩ | ⟨x, d, h1, h2, r, hx, hd, _⟩
  · rw [h1]
    exact (relP_fresh p.sn).code SOk.nil (freshD_ok p.sn) (by unfold pieceD; rw [h2])
  · rw [h1]
    exact r.code (ok x hx).so (hok d hd) (by unfold pieceD; rw [h2])
theorem putS_right {S : List PV} {p : Pk} (h : putS S p = 0) : rightB p = true := by
  unfold putS putK at h
  rcases (show rightB p = false ∨ rightB p = true by cases rightB p <;> simp) with hr | hr
  · rw [if_pos hr] at h; cases h
  · exact hr
theorem RelL.put (h : RelL S l) (ok : ∀ x ∈ S, x.Ok) {p : Pk} (hsn : inR p.sn) {A B : List DP} (h0 : putS S p = 0) (hA : ∀ d ∈ A, d.sn < p.sn) (hB : ∀ d ∈ B, p.sn < d.sn)
    (hc : (l = A ++ B ∧ pieceD l p.sn = freshD p.sn) ∨ (l = A ++ pieceD l p.sn :: B ∧ (pieceD l p.sn).sn = p.sn)) : RelL (putV S p) (A ++ withD (pieceD l p.sn) p (endsP p) :: B) := by
  have hr := putS_right h0
  have hAB : ∀ d, d ∈ A ∨ d ∈ B → d ∈ l ∧ d.sn ≠ p.sn := fun d hd => by
    have e1 : d.sn ≠ p.sn := by
      rcases hd with hd | hd
      · have := hA d hd; omega
      · have := hB d hd; omega
    refine ⟨?_, e1⟩
    rcases hc with ⟨e, _⟩ | ⟨e, _⟩
    · rw [e]; exact List.mem_append.2 hd
    · rw [e]
      rcases hd with hd | hd
      · exact List.mem_append.2 (.inl hd)
      · exact List.mem_append.2 (.inr (List.mem_cons_of_mem _ hd))
  have hup0 : ((A ++ B).map (·.sn)).Pairwise (· < ·) := by
    have := h.up
    rcases hc with ⟨e, _⟩ | ⟨e, _⟩
    · rw [e] at this; exact this
    · rw [e] at this
      exact this.sublist (((List.Sublist.refl A).append (List.sublist_cons_self _ B)).map _)
  have hup : ∀ y : DP, y.sn = p.sn → ((A ++ y :: B).map (·.sn)).Pairwise (· < ·) := fun y hy => by
    rw [List.map_append, List.pairwise_append] at hup0
    rw [List.map_append, List.map_cons, List.pairwise_append, List.pairwise_cons]
    refine ⟨hup0.1, ⟨fun b hb => ?_, hup0.2.1⟩, fun a ha b hb => ?_⟩
    · obtain ⟨d, hd, rfl⟩ := List.mem_map.1 hb
      rw [hy]; exact hB d hd
    · rcases List.mem_cons.1 hb with rfl | hb
      · obtain ⟨d, hd, rfl⟩ := List.mem_map.1 ha
        rw [hy]; exact hA d hd
      · exact hup0.2.2 a ha b hb
  have hmid : ∀ y : DP, ∀ d, d ∈ A ++ y :: B → d = y ∨ (d ∈ A ∨ d ∈ B) := fun y d hd => by
    rcases List.mem_append.1 hd with hd | hd
    · exact .inr (.inl hd)
    · rcases List.mem_cons.1 hd with rfl | hd
      · exact .inl rfl
      · exact .inr (.inr hd)
  have hin : ∀ y : DP, ∀ d, (d ∈ A ∨ d ∈ B) → d ∈ A ++ y :: B := fun y d hd => by
    rcases hd with hd | hd
    · exact List.mem_append.2 (.inl hd)
    · exact List.mem_append.2 (.inr (List.mem_cons_of_mem _ hd))
  unfold putV
  rw [if_neg (by rw [h0]; simp)]
  rcases h.find p.sn with ⟨h1, h2, h3, h4⟩ | ⟨x, d, h1, h2, r, hx, hd, hxs, hds⟩
  · rw [h1]
    have hpc : pieceD l p.sn = freshD p.sn := by unfold pieceD; rw [h2]
    rw [hpc] at hc ⊢
    have hkk : putK p [] (-1) = 0 := by unfold putS lS eS at h0; rw [h1] at h0; exact h0
    have hR := (relP_fresh p.sn).put (PV.Ok.fresh hsn) hr hkk
    have hl : l = A ++ B := by
      rcases hc with ⟨e, _⟩ | ⟨e, h5⟩
      · exact e
      · exact absurd h5 (h4 _ (e ▸ List.mem_append.2 (.inr (List.mem_cons_self ..))))
    refine ⟨fun x hx => ?_, fun d hd => ?_, ?_, hup _ rfl⟩
    · rcases List.mem_append.1 hx with hx | hx
      · obtain ⟨d, hd, r⟩ := h.sd x hx
        exact ⟨d, hin _ _ (by rw [hl] at hd; exact List.mem_append.1 hd), r⟩
      · rw [List.mem_singleton.1 hx]
        exact ⟨_, List.mem_append.2 (.inr (List.mem_cons_self ..)), hR⟩
    · rcases hmid _ d hd with rfl | hd
      · exact ⟨_, List.mem_append.2 (.inr (List.mem_singleton.2 rfl)), hR⟩
      · obtain ⟨x, hx, r⟩ := h.ds d (hAB d hd).1
        exact ⟨x, List.mem_append.2 (.inl hx), r⟩
    · rw [List.map_append, List.nodup_append]
      refine ⟨h.nd, by simp, fun a ha b hb e => ?_⟩
      obtain ⟨z, hz, rfl⟩ := List.mem_map.1 ha
      simp [updV, freshV] at hb
      exact h3 z hz (by rw [e, hb])
  · rw [h1]
    have hpc : pieceD l p.sn = d := by unfold pieceD; rw [h2]
    rw [hpc] at hc ⊢
    have hkk : putK p x.l x.e = 0 := by unfold putS lS eS at h0; rw [h1] at h0; exact h0
    have hR := r.put (ok x hx) hr hkk
    refine ⟨fun y hy => ?_, fun e he => ?_, ?_, hup _ hds⟩
    · obtain ⟨z, hz, rfl⟩ := List.mem_map.1 hy
      by_cases hzs : z.sn = p.sn
      · have : z = x := nd_inj h.nd hz hx (by rw [hzs, hxs])
        subst this
        rw [if_pos hzs]
        exact ⟨_, List.mem_append.2 (.inr (List.mem_cons_self ..)), hR⟩
      · rw [if_neg hzs]
        obtain ⟨e, he, r2⟩ := h.sd z hz
        refine ⟨e, hin _ _ ?_, r2⟩
        have hes : e.sn ≠ p.sn := by rw [r2.sn]; exact hzs
        rcases hc with ⟨e1, _⟩ | ⟨e1, _⟩
        · rw [e1] at he; exact List.mem_append.1 he
        · rw [e1] at he
          rcases hmid _ e he with rfl | he
          · exact absurd hds hes
          · exact he
    · rcases hmid _ e he with rfl | he
      · exact ⟨updV x p, List.mem_map.2 ⟨x, hx, by rw [if_pos hxs]⟩, hR⟩
      · obtain ⟨hel, hes⟩ := hAB e he
        obtain ⟨z, hz, r2⟩ := h.ds e hel
        exact ⟨z, List.mem_map.2 ⟨z, hz, by rw [if_neg (by rw [← r2.sn]; exact hes)]⟩, r2⟩
    · rw [List.map_map]
      rw [show S.map ((·.sn) ∘ fun x => if x.sn = p.sn then updV x p else x) = S.map (·.sn) from List.map_congr_left fun z _ => by
        show (if z.sn = p.sn then updV z p else z).sn = z.sn
        split <;> rfl]
      exact h.nd
def dropV (S : List PV) (sn : Int) : List PV := S.filter fun x => decide (x.sn ≠ sn)
theorem RelL.drop (h : RelL S l) {sn : Int} {A B : List DP} {d : DP} (hl : l = A ++ d :: B) (hd : d.sn = sn) : RelL (dropV S sn) (A ++ B) := by
  have hne : ∀ e ∈ A ++ B, e ∈ l ∧ e.sn ≠ sn := fun e he => by
    have hup := h.up
    rw [hl, List.map_append, List.map_cons, List.pairwise_append, List.pairwise_cons] at hup
    rcases List.mem_append.1 he with he | he
    · refine ⟨by rw [hl]; exact List.mem_append.2 (.inl he), ?_⟩
      have := hup.2.2 _ (List.mem_map_of_mem he) _ (List.mem_cons_self ..)
      omega
    · refine ⟨by rw [hl]; exact List.mem_append.2 (.inr (List.mem_cons_of_mem _ he)), ?_⟩
      have := hup.2.1.1 _ (List.mem_map_of_mem he)
      omega
  refine ⟨fun x hx => ?_, fun e he => ?_, ?_, ?_⟩
  · have hx := List.mem_filter.1 hx
    have hxs := of_decide_eq_true hx.2
    obtain ⟨e, he, r⟩ := h.sd x hx.1
    refine ⟨e, ?_, r⟩
    rw [hl] at he
    rcases List.mem_append.1 he with he | he
    · exact List.mem_append.2 (.inl he)
    · rcases List.mem_cons.1 he with rfl | he
      · exact absurd (by rw [← r.sn, hd]) hxs
      · exact List.mem_append.2 (.inr he)
  · obtain ⟨h1, h2⟩ := hne e he
    obtain ⟨x, hx, r⟩ := h.ds e h1
    exact ⟨x, List.mem_filter.2 ⟨hx, decide_eq_true (by rw [← r.sn]; exact h2)⟩, r⟩
  · exact h.nd.sublist (List.filter_sublist.map _)
  · have := h.up
    rw [hl] at this
    exact this.sublist (((List.Sublist.refl A).append (List.sublist_cons_self _ B)).map _)
theorem RelL.whole (h : RelL S l) (ok : ∀ x ∈ S, x.Ok) (hok : ∀ d ∈ l, d.Ok) (sn : Int) : wholeS S sn = match l.find? (fun d => d.sn == sn) with
    | none => false
    | some d => wholeD d := by
  unfold wholeS
  rcases h.find sn with ⟨h1, h2, _⟩ | ⟨x, d, h1, h2, r, hx, hd, _⟩
  · rw [h1, h2]
  · rw [h1, h2]; exact r.whole (ok x hx).so (hok d hd)
theorem RelL.miss (h : RelL S l) (ok : ∀ x ∈ S, x.Ok) (hok : ∀ d ∈ l, d.Ok) (sn : Int) : missS S sn = missE l sn := by
  unfold missS missE
  rcases h.find sn with ⟨h1, h2, _⟩ | ⟨x, d, h1, h2, r, hx, hd, _⟩
  · rw [h1, h2]
  · rw [h1, h2]; exact r.miss (ok x hx).so (hok d hd)
theorem RelL.takeC (h : RelL S l) (ok : ∀ x ∈ S, x.Ok) (hok : ∀ d ∈ l, d.Ok) (sn : Int) : takeC S sn = takeDc l sn ∧ takeF S sn = takeDf l sn := by
  unfold Go.Proofs.YtgbpjbpdpgbngaaGreat.takeC takeF takeDc takeDf
  rcases h.find sn with ⟨h1, h2, _⟩ | ⟨x, d, h1, h2, r, hx, hd, _⟩
  · rw [h1, h2]; exact ⟨rfl, rfl⟩
  · rw [h1, h2]
    dsimp only
    rw [r.whole (ok x hx).so (hok d hd)]
    refine ⟨rfl, ?_⟩
    by_cases hw : wholeD d = true
    · rw [if_pos hw, if_pos hw, r.take (ok x hx).so (hok d hd) hw, r.fi]
    · rw [if_neg hw, if_neg hw]
theorem RelL.perm (h : RelL S l) : (S.map (·.sn)).Perm (l.map (·.sn)) := by
  refine (List.perm_ext_iff_of_nodup h.nd (h.up.imp fun h => by omega)).2 fun k => ⟨fun hk => ?_, fun hk => ?_⟩
  · obtain ⟨x, hx, rfl⟩ := List.mem_map.1 hk
    obtain ⟨d, hd, r⟩ := h.sd x hx
    exact List.mem_map.2 ⟨d, hd, r.sn⟩
  · obtain ⟨d, hd, rfl⟩ := List.mem_map.1 hk
    obtain ⟨x, hx, r⟩ := h.ds d hd
    exact List.mem_map.2 ⟨x, hx, r.sn.symm⟩
theorem RelL.len (h : RelL S l) : S.length = l.length := by simpa using h.perm.length_eq
theorem nodup_of_map {α β : Type} (f : α → β) : ∀ {l : List α}, (l.map f).Nodup → l.Nodup
  | [], _ => .nil
  | a :: l, h => by
    rw [List.map_cons, List.nodup_cons] at h
    exact List.nodup_cons.2 ⟨fun hm => h.1 (List.mem_map_of_mem hm), nodup_of_map f h.2⟩
theorem RelL.bytes (h : RelL S l) (ok : ∀ x ∈ S, x.Ok) : bytesS S = bytesD l := by
  let q : PV → Int × Int := fun x => (x.sn, cntL x.l)
  let r : DP → Int × Int := fun d => (d.sn, ((cntT (thereL d.B) (0, (d.B.length : Int)) : Nat) : Int))
  have hqr : ∀ x d, x ∈ S → RelP x d → q x = r d := fun x d hx h => by
    have := rel_cnt (ok x hx).so h.rel
    rw [thereL_len] at this
    show (x.sn, cntL x.l) = (d.sn, _)
    rw [h.sn, this]
  have n1 : (S.map q).Nodup := nodup_of_map (·.1) (by rw [List.map_map]; exact h.nd)
  have n2 : (l.map r).Nodup := nodup_of_map (·.1) (by rw [List.map_map]; exact h.up.imp fun h => by omega)
  have hp : (S.map q).Perm (l.map r) := by
    refine (List.perm_ext_iff_of_nodup n1 n2).2 fun k => ⟨fun hk => ?_, fun hk => ?_⟩
    · obtain ⟨x, hx, rfl⟩ := List.mem_map.1 hk
      obtain ⟨d, hd, rr⟩ := h.sd x hx
      exact List.mem_map.2 ⟨d, hd, (hqr x d hx rr).symm⟩
    · obtain ⟨d, hd, rfl⟩ := List.mem_map.1 hk
      obtain ⟨x, hx, rr⟩ := h.ds d hd
      exact List.mem_map.2 ⟨x, hx, hqr x d hx rr⟩
  have := sum_perm (hp.map (·.2))
  rw [List.map_map, List.map_map] at this
  exact this
end
end Go.Proofs.YtgbpjbpdpgbngaaGreat
/-
  What came in parts: a buffer, and the document's beside it: what is called of both.
-/
namespace Go.Proofs.YtgbpjbpdpgbngaaGreat
set_option maxRecDepth 20000
open Go Go.Am

section
variable {σb σ : AHeap} {ib im : Nat} {X A B : List PX} {x : PX} {G : List HE}
theorem buDropNone {es : List (Int × AVal)} (b1 : σ ib = some (.cells (buC im))) (b2 : σ im = some (.map es)) (sn : Int) (he : es.find? (fun e => e.1 == sn) = none) :
    ACalls Tryz.prog i_rxbuf_Buffer_Drop [.ptr ib 0, i64v sn] σ fun v σ' => v = i64v 4 ∧ σ' = σ := by
  refine k_rxbuf_Buffer_Drop rfl ?_
  (refine wX ?_)
  refine acall (buNone b1 b2 sn he) ?_
  rintro _ σ_ ⟨rfl, e_⟩
  obtain rfl := e_.symm
  refine ⟨?_, Ext.refl _⟩
  (refine wX ?_)
  exact aret (VLe.refl _) (Sub.refl _) ⟨rfl, rfl⟩
end
/-- No number is less than 0. -/
def NegS (S : List PV) : Prop := ∀ x ∈ S, 0 ≤ x.sn
theorem NegS.put {S : List PV} (h : NegS S) {p : Pk} (hp : 0 ≤ p.sn) : NegS (putV S p) := by
  unfold putV
  split
  · exact h
  · cases hf : findS S p.sn with
    | none =>
      intro x hx
      rcases List.mem_append.1 hx with hx | hx
      · exact h x hx
      · rw [List.mem_singleton.1 hx]; exact hp
    | some y =>
      intro x hx
      obtain ⟨z, hz, rfl⟩ := List.mem_map.1 hx
      have := h z hz
      split
      · exact this
      · exact this
theorem NegS.take {S : List PV} (h : NegS S) {sn : Int} : NegS (takeS S sn) := by
  unfold takeS
  split
  · exact fun x hx => h x ((List.mem_filter.1 hx).1)
  · exact h
/-- Both buffers, one of which may be ahead. -/
structure MidB (σb : AHeap) (ib ix : Nat) (k k2 : Nat) (P : List PV → Prop) (f : List PV → List PV) (G : List HE) (τ : AHeap) : Prop where
  ex : ∃ im X tk l S, P S ∧ pvs X = f S ∧ Hp σb (XL ib im X (.o ix (.cells (dbC tk l)) :: G)) τ ∧ XOk X ∧ (∀ x ∈ S, x.Ok) ∧ (∀ d ∈ l, d.Ok) ∧ RelL S l ∧ X.length ≤ k2 ∧ l.length ≤ k
abbrev BothB (σb : AHeap) (ib ix : Nat) (k : Nat) (G : List HE) (τ : AHeap) : Prop := MidB σb ib ix k k NegS id G τ
section
variable {σb τ : AHeap} {ib ix k k2 : Nat} {G : List HE} {P : List PV → Prop} {f : List PV → List PV}
theorem Hp.outB {im : Nat} {X : List PX} {y : HE} (H : Hp σb (XL ib im X (y :: G)) τ) : Hp σb (y :: XL ib im X G) τ :=
  Hp.mid (A := .o ib (.cells (buC im)) :: .o im (.map (esX X)) :: flatX X) (B := [y]) (C := G) H
theorem Hp.inB {im : Nat} {X : List PX} {y : HE} (H : Hp σb (y :: XL ib im X G) τ) : Hp σb (XL ib im X (y :: G)) τ :=
  Hp.mid (A := [y]) (B := .o ib (.cells (buC im)) :: .o im (.map (esX X)) :: flatX X) (C := G) H
theorem MidB.push {E : List HE} {τ' : AHeap} (M : MidB σb ib ix k k2 P f G τ) (N : Hp τ E τ') : MidB σb ib ix k k2 P f (E ++ G) τ' := by
  obtain ⟨im, X, tk, l, S, hP, hS, H, h⟩ := M
  have H := H.join N
  have H := Hp.mid (A := E) (B := .o ib (.cells (buC im)) :: .o im (.map (esX X)) :: (flatX X ++ [.o ix (.cells (dbC tk l))])) (C := G) (by simp only [List.append_assoc, List.cons_append, List.nil_append] at H ⊢; exact H)
  simp only [List.append_assoc, List.cons_append, List.nil_append] at H
  exact ⟨im, X, tk, l, S, hP, hS, H, h⟩
theorem MidB.pop {E : List HE} (M : MidB σb ib ix k k2 P f (E ++ G) τ) : MidB σb ib ix k k2 P f G τ := by
  obtain ⟨im, X, tk, l, S, hP, hS, H, h⟩ := M
  have H := Hp.mid (A := .o ib (.cells (buC im)) :: .o im (.map (esX X)) :: (flatX X ++ [.o ix (.cells (dbC tk l))])) (B := E) (C := G) (by simp only [List.append_assoc, List.cons_append, List.nil_append] at H ⊢; exact H)
  have H := Hp.rest (A := E) H
  simp only [List.append_assoc, List.cons_append, List.nil_append] at H
  exact ⟨im, X, tk, l, S, hP, hS, H, h⟩
theorem MidB.at_ {i : Nat} {c : AObj} (M : MidB σb ib ix k k2 P f (.o i c :: G) τ) : τ i = some c := by
  obtain ⟨im, X, tk, l, S, hP, hS, H, h⟩ := M
  exact H.ok (.o i c) (by simp)
theorem MidB.heap (M : MidB σb ib ix k k2 P f G τ) : Hp σb [] τ := by
  obtain ⟨im, X, tk, l, S, hP, hS, H, h⟩ := M
  exact H.left (L := [])
theorem MidB.more {k3 : Nat} (M : BothB σb ib ix k G τ) (h : k ≤ k3) : BothB σb ib ix k3 G τ := by
  obtain ⟨im, X, tk, l, S, hP, hS, H, h1, h2, h3, h4, h5, h6⟩ := M
  exact ⟨im, X, tk, l, S, hP, hS, H, h1, h2, h3, h4, by omega, by omega⟩
theorem cPut1 (M : BothB σb ib ix k G τ) (hk : k ≤ 900) (p : Pk) (hl : p.fs.length ≤ 1000) (ht : total p.fs ≤ 1000000) (hsn : inR p.sn) :
    ACalls Tryz.prog i_rxbuf_Buffer_Put [.ptr ib 0, amV p] τ fun v σ' => ∃ q : Int, v = i64v q ∧ MidB σb ib ix k (k + 1) (fun S => q = putS S p ∧ NegS S) (fun S => putV S p) G σ' := by
  obtain ⟨im, X, tk, l, S, hP, hS, H, ok, hSo, hok, hR, hX, hll⟩ := M
  have hS : pvs X = S := hS
  subst hS
  refine acall_less (xPut H ok (by omega) p hl ht hsn) ?_
  rintro _ σ' ⟨rfl, X', H', hX', ok', hl'⟩
  exact ⟨_, _, VLe.refl _, Sub.refl _, _, rfl, ⟨im, X', tk, l, _, ⟨rfl, hP⟩, hX', H', ok', hSo, hok, hR, by omega, hll⟩⟩
theorem XOk.pv {X : List PX} (ok : XOk X) : ∀ x ∈ pvs X, x.Ok := fun x hx => by obtain ⟨y, hy, rfl⟩ := List.mem_map.1 hx; exact ok.ok y hy
theorem cPut2 {q : Int} {p : Pk} (hs0 : 0 ≤ p.sn) (M : MidB σb ib ix k (k + 1) (fun S => q = putS S p ∧ NegS S) (fun S => putV S p) G τ) (hk : k ≤ 900) (hl : p.fs.length ≤ 1000) (ht : total p.fs ≤ 1000000) (hsn : inR p.sn) :
    ACalls Tryz.prog i_bowlineref24_Buffer_Put [.ptr ix 0, amV p] τ fun v σ' => v = i64v q ∧ BothB σb ib ix (k + 1) G σ' := by
  obtain ⟨im, X, tk, l, S, hP, hS, H, ok, hSo, hok, hR, hX, hll⟩ := M
  obtain ⟨hP, hN⟩ := hP
  have hP : q = putS S p := hP
  have hS : pvs X = putV S p := hS
  have hcode := hR.code hSo hok p
  refine acall_less (ePut (Hp.outB H) (by omega) hok hR.up p hl ht) ?_
  rintro _ σ' ⟨rfl, tk', l', H', hcase⟩
  rw [← hcode, ← hP] at hcase ⊢
  refine ⟨_, _, VLe.refl _, Sub.refl _, rfl, ?_⟩
  rcases hcase with ⟨h0, rfl⟩ | ⟨h0, A, B, hA, hB, rfl, hc⟩
  · have : putV S p = S := by unfold putV; rw [if_pos (by rw [← hP]; exact h0)]
    rw [this] at hS
    exact ⟨im, X, tk', l', S, hN, hS, Hp.inB H', ok, hSo, hok, hR, hX, by omega⟩
  · have hr := putS_right (S := S) (p := p) (by rw [← hP]; exact h0)
    have hR2 := hR.put hSo hsn (by rw [← hP]; exact h0) hA hB hc
    have hln : (A ++ withD (pieceD l p.sn) p (endsP p) :: B).length ≤ l.length + 1 := by
      rcases hc with ⟨e, _⟩ | ⟨e, _⟩
      · have := congrArg List.length e
        rw [List.length_append] at this ⊢
        rw [List.length_cons]; omega
      · have := congrArg List.length e
        rw [List.length_append, List.length_cons] at this ⊢
        omega
    refine ⟨im, X, tk', _, _, (show NegS (pvs X) by rw [hS]; exact hN.put hs0), rfl, Hp.inB H', ok, ok.pv, fun d hd => ?_, by show RelL (pvs X) _; rw [hS]; exact hR2, hX, by omega⟩
    have hAB : ∀ e, e ∈ A ∨ e ∈ B → e ∈ l := fun e he => by
      rcases hc with ⟨e1, _⟩ | ⟨e1, _⟩
      · rw [e1]; exact List.mem_append.2 he
      · rw [e1]
        rcases he with he | he
        · exact List.mem_append.2 (.inl he)
        · exact List.mem_append.2 (.inr (List.mem_cons_of_mem _ he))
    rcases List.mem_append.1 hd with hd | hd
    · exact hok d (hAB d (.inl hd))
    · rcases List.mem_cons.1 hd with rfl | hd
      · exact withD_ok (pieceD_ok hok _) hr
      · exact hok d (hAB d (.inr hd))
theorem MidB.refused {q : Int} {p : Pk} (M : MidB σb ib ix k (k + 1) (fun S => q = putS S p ∧ NegS S) (fun S => putV S p) G τ) (h : q ≠ 0) : BothB σb ib ix (k + 1) G τ := by
  obtain ⟨im, X, tk, l, S, ⟨hP, hN⟩, hS, H, ok, hSo, hok, hR, hX, hll⟩ := M
  have hS : pvs X = putV S p := hS
  unfold putV at hS
  rw [if_pos (by rw [← hP]; exact h)] at hS
  exact ⟨im, X, tk, l, S, hN, hS, H, ok, hSo, hok, hR, hX, by omega⟩
theorem cTake1 (M : BothB σb ib ix k G τ) (hk : k ≤ 900) (sn : Int) :
    ACalls Tryz.prog i_rxbuf_Buffer_Take [.ptr ib 0, i64v sn] τ fun v σ' => ∃ q : Int × List (List UInt8) × Int, v = .tup [i64v q.1, lists .none q.2.1, i64v q.2.2] ∧ MidB σb ib ix k k (fun S => q = ((takeF S sn).1, (takeF S sn).2, takeC S sn) ∧ NegS S) (fun S => takeS S sn) G σ' := by
  obtain ⟨im, X, tk, l, S, hP, hS, H, ok, hSo, hok, hR, hX, hll⟩ := M
  have hS : pvs X = S := hS
  subst hS
  refine acall_less (xTake H ok sn) ?_
  rintro _ σ' ⟨rfl, X', H', hX', ok', hl'⟩
  exact ⟨_, _, VLe.refl _, Sub.refl _, _, rfl, ⟨im, X', tk, l, _, ⟨rfl, hP⟩, hX', H', ok', hSo, hok, hR, by omega, hll⟩⟩
theorem takeD_len {l : List DP} (hok : ∀ d ∈ l, d.Ok) (sn : Int) : (takeDf l sn).2.length ≤ 4000 := by
  unfold takeDf
  cases h : l.find? (fun d => d.sn == sn) with
  | none => exact Nat.zero_le _
  | some d =>
    dsimp only
    split
    · have h1 := tkD_len d d.e.toNat
      have h2 := (hok d (List.mem_of_find?_eq_some h)).e
      have : (tkD d d.e.toNat).length ≤ 4000 := by omega
      exact this
    · exact Nat.zero_le _
theorem cTake2 {q : Int × List (List UInt8) × Int} {sn : Int} (M : MidB σb ib ix k k (fun S => q = ((takeF S sn).1, (takeF S sn).2, takeC S sn) ∧ NegS S) (fun S => takeS S sn) G τ) (hk : k ≤ 900) :
    ACalls Tryz.prog i_bowlineref24_Buffer_Take [.ptr ix 0, i64v sn] τ fun v σ' => v = .tup [i64v q.1, lists .none q.2.1, i64v q.2.2] ∧ q.2.1.length ≤ 4000 ∧ BothB σb ib ix k G σ' := by
  obtain ⟨im, X, tk, l, S, hP, hS, H, ok, hSo, hok, hR, hX, hll⟩ := M
  obtain ⟨hP, hN⟩ := hP
  have hP : q = ((takeF S sn).1, (takeF S sn).2, takeC S sn) := hP
  have hS : pvs X = takeS S sn := hS
  obtain ⟨e1, e2⟩ := hR.takeC hSo hok sn
  have hlen := takeD_len hok sn
  refine acall_less (eTake (Hp.outB H) (by omega) hok sn) ?_
  rintro _ σ' ⟨rfl, tk', l', H', hcase⟩
  rw [← e1] at hcase ⊢
  rw [← e2] at hlen ⊢
  subst hP
  refine ⟨_, _, VLe.refl _, Sub.refl _, rfl, hlen, ?_⟩
  have ht : takeC S sn = 0 ↔ wholeS S sn = true := by
    unfold takeC wholeS
    cases findS S sn with
    | none => simp
    | some x => dsimp only; split <;> simp_all
  unfold takeS at hS
  rcases hcase with ⟨h0, rfl⟩ | ⟨h0, A, d, B, rfl, hd, hf, rfl⟩
  · rw [if_neg (fun g => h0 (ht.2 g))] at hS
    exact ⟨im, X, tk', l', S, hN, hS, Hp.inB H', ok, hSo, hok, hR, hX, hll⟩
  · rw [if_pos (ht.1 h0)] at hS
    refine ⟨im, X, tk', A ++ B, _, (show NegS (pvs X) by rw [hS]; exact fun x hx => hN x ((List.mem_filter.1 hx).1)), rfl, Hp.inB H', ok, ok.pv, fun e he => hok e ?_, by show RelL (pvs X) _; rw [hS]; exact hR.drop rfl hd, hX, by simp at hll ⊢; omega⟩
    rcases List.mem_append.1 he with he | he
    · exact List.mem_append.2 (.inl he)
    · exact List.mem_append.2 (.inr (List.mem_cons_of_mem _ he))
end
end Go.Proofs.YtgbpjbpdpgbngaaGreat
/-
  Statuses: which may be.
-/
namespace Go.Proofs.YtgbpjbpdpgbngaaGreat
open Go Go.Am

abbrev Ms := Int × Bool × Int × Int
abbrev msV (m : Ms) : AVal := .agg [i64v m.1, boolv m.2.1, i64v m.2.2.1, i64v m.2.2.2]
abbrev missV (t : Tok) (l : List Ms) : AVal := .slice 4 (l.map msV) t
abbrev stV (t : Tok) (s : Int × List Ms) : AVal := .agg [i64v s.1, missV t s.2]
def offWSt (w : Int) : Nat := if w = 10 then 15 else 16
def plcs (w : Int) : Int := 2 ^ offWSt w
theorem plcs_10 : plcs 10 = 32768 := by decide
theorem plcs_no {w : Int} (h : ¬ w = 10) : plcs w = 65536 := by unfold plcs offWSt; rw [if_neg h]; rfl
def missOk (w : Int) (m : Ms) : Bool := isNum w m.1 && if m.2.1 = true then decide (0 ≤ m.2.2.1 ∧ m.2.2.1 < plcs w ∧ (m.2.2.2 = 0 ∨ m.2.2.1 < m.2.2.2 ∧ m.2.2.2 < plcs w)) else decide (m.2.2.1 = 0 ∧ m.2.2.2 = 0)
def stWidth (w : Int) : Bool := decide (w = 10 ∨ w = 16)
def stOk (w : Int) (s : Int × List Ms) : Bool := stWidth w && isNum w s.1 && decide (s.2.length ≤ 32) && s.2.all (missOk w)

theorem tIsWidth (w : Int) (σ : AHeap) : ACalls Tryz.prog i_status_isWidth [i64v w] σ fun v σ' => v = boolv (stWidth w) ∧ σ' = σ := by
  refine k_status_isWidth rfl ?_
  (refine wX ?_)
  by_cases h : w = 10
  · subst h
    (refine wX ?_)
    exact aret_same ⟨rfl, rfl⟩
  · refine abr_no h ?_
    (refine wX ?_)
    refine aret_same ⟨?_, rfl⟩
    unfold stWidth
    exact congrArg boolv (dec_congr (by omega))
theorem tOff (w : Int) (σ : AHeap) : ACalls Tryz.prog i_status_offsetWidth [i64v w] σ fun v σ' => v = i64v (offWSt w) ∧ σ' = σ := by
  refine k_status_offsetWidth rfl ?_
  (refine wX ?_)
  by_cases h : w = 10
  · (repeat ((refine abr_yes (by omega) ?_); (refine wX ?_)))
    exact aret_same ⟨by unfold offWSt; rw [if_pos h]; rfl, rfl⟩
  · (repeat ((refine abr_no (by omega) ?_); (refine wX ?_)))
    exact aret_same ⟨by unfold offWSt; rw [if_neg h]; rfl, rfl⟩
set_option maxRecDepth 20000 in
theorem tIsMiss (m : Ms) (w : Int) (σ : AHeap) : ACalls Tryz.prog i_status_isMiss [msV m, i64v w] σ fun v σ' => v = boolv (missOk w m) ∧ σ' = σ := by
  obtain ⟨sn, part, fr, to⟩ := m
  refine k_status_isMiss rfl ?_
  (refine wX ?_)
  refine anew rfl fun i1 h1 => ?_
  (refine wX ?_)
  refine anew rfl fun i2 h2 => ?_
  have n12 : i1 ≠ i2 := fun e => by subst e; rw [upd_same] at h2; cases h2
  have b2 : σ i2 = none := sub_none (Sub.upd_fresh _ h1) h2
  have hs : Sub (upd (upd σ i1 (.cells (msV (sn, part, fr, to)).cells)) i2 (.cells [i64v w])) σ := sub_upd _ (Sub.upd_fresh _ h1) b2
  (refine wX ?_)
  refine astore (xs := [i64v w]) (l := [i64v w]) (upd_same _ _ _) (by exact Nat.le_refl 1) rfl rfl ?_
  rw [upd_upd]
  have k1 : upd (upd σ i1 (.cells (msV (sn, part, fr, to)).cells)) i2 (.cells [i64v w]) i1 = some (.cells [i64v sn, boolv part, i64v fr, i64v to]) := by rw [upd_ne _ _ n12]; exact upd_same _ _ _
  have k2 : upd (upd σ i1 (.cells (msV (sn, part, fr, to)).cells)) i2 (.cells [i64v w]) i2 = some (.cells [i64v w]) := upd_same _ _ _
  generalize upd (upd σ i1 (.cells (msV (sn, part, fr, to)).cells)) i2 (.cells [i64v w]) = τ at *
  (refine wX ?_)
  refine acall (tOff w _) ?_
  rintro _ σ_ ⟨rfl, e_⟩
  obtain rfl := e_.symm
  refine ⟨?_, Ext.refl _⟩
  (refine wX ?_)
  have hoff : offWSt w ≤ 62 := by unfold offWSt; split <;> omega
  have hP : ((2 ^ offWSt w : Nat) : Int) = plcs w := by unfold plcs; simp
  have hPr : plcs w = 32768 ∨ plcs w = 65536 := by
    by_cases h : w = 10
    · subst h; exact .inl plcs_10
    · exact .inr (plcs_no h)
  refine ashl_eq (by omega) (shl1_nat hoff) ?_
  rw [hP]
  (refine wX ?_)
  (repeat ((refine afit_i64 (by omega) ?_); (refine wX ?_)))
  refine aloads (l := [i64v w]) k2 (by exact Nat.le_refl 1) rfl ?_
  (refine wX ?_)
  refine aload k1 rfl ?_
  (refine wX ?_)
  refine acall (sqIs w sn _) ?_
  rintro _ σ_ ⟨rfl, e_⟩
  obtain rfl := e_.symm
  refine ⟨?_, Ext.refl _⟩
  (refine wX ?_)
  cases hsn : isNum w sn
  · (refine wX ?_)
    exact aret (VLe.refl _) hs ⟨by unfold missOk; dsimp only; rw [hsn]; rfl, rfl⟩
  (refine wX ?_)
  have hM : missOk w (sn, part, fr, to) = if part = true then decide (0 ≤ fr ∧ fr < plcs w ∧ (to = 0 ∨ fr < to ∧ to < plcs w)) else decide (fr = 0 ∧ to = 0) := by unfold missOk; dsimp only; rw [hsn]; rfl
  have hbad (h : fr < 0 ∨ to < 0 ∨ to > plcs w - 1) : missOk w (sn, part, fr, to) = false := by
    rw [hM]; split <;> exact decide_eq_false (by omega)
  by_cases c1 : fr < 0
  · (repeat ((first | refine aload (by (repeat (first | with_reducible exact upd_same _ _ _ | assumption | rw [upd_ne _ _ (by first | assumption | (apply Ne.symm; assumption))]))) rfl ?_ | refine abr_yes (by omega) ?_); (refine wX ?_)))
    exact aret (VLe.refl _) hs ⟨by rw [hbad (.inl c1)], rfl⟩
  by_cases c2 : to < 0
  · (repeat ((first | refine aload (by (repeat (first | with_reducible exact upd_same _ _ _ | assumption | rw [upd_ne _ _ (by first | assumption | (apply Ne.symm; assumption))]))) rfl ?_ | refine abr_yes (by omega) ?_ | refine abr_no (by omega) ?_); (refine wX ?_)))
    exact aret (VLe.refl _) hs ⟨by rw [hbad (.inr (.inl c2))], rfl⟩
  by_cases c3 : to > plcs w - 1
  · (repeat ((first | refine aload (by (repeat (first | with_reducible exact upd_same _ _ _ | assumption | rw [upd_ne _ _ (by first | assumption | (apply Ne.symm; assumption))]))) rfl ?_ | refine abr_yes (by omega) ?_ | refine abr_no (by omega) ?_); (refine wX ?_)))
    exact aret (VLe.refl _) hs ⟨by rw [hbad (.inr (.inr c3))], rfl⟩
  rw [hM]
  cases part
  · (repeat ((first | refine aload (by (repeat (first | with_reducible exact upd_same _ _ _ | assumption | rw [upd_ne _ _ (by first | assumption | (apply Ne.symm; assumption))]))) rfl ?_ | refine abr_no (by omega) ?_); (refine wX ?_)))
    refine aloads (l := [i64v sn, boolv false, i64v fr, i64v to]) k1 (by exact Nat.le_refl 4) rfl ?_
    (refine wX ?_)
    refine aload k1 rfl ?_
    (refine wX ?_)
    refine aret (VLe.refl _) hs ⟨congrArg boolv ?_, rfl⟩
    rw [if_neg (by simp)]
    by_cases a : fr = 0 <;> by_cases b : to = 0 <;> simp [a, b]
  · by_cases c4 : to = 0
    · (repeat ((first | refine aload (by (repeat (first | with_reducible exact upd_same _ _ _ | assumption | rw [upd_ne _ _ (by first | assumption | (apply Ne.symm; assumption))]))) rfl ?_ | refine abr_yes (by omega) ?_ | refine abr_no (by omega) ?_); (refine wX ?_)))
      refine aret (VLe.refl _) hs ⟨congrArg boolv ?_, rfl⟩
      exact dec_congr (by omega)
    · (repeat ((first | refine aload (by (repeat (first | with_reducible exact upd_same _ _ _ | assumption | rw [upd_ne _ _ (by first | assumption | (apply Ne.symm; assumption))]))) rfl ?_ | refine abr_no (by omega) ?_); (refine wX ?_)))
      refine aret (VLe.refl _) hs ⟨congrArg boolv ?_, rfl⟩
      exact dec_congr (by omega)

theorem tRight1 (m : Ms) (w : Int) (id : Nat) (σ : AHeap) (h : σ id = some (.cells [i64v w])) : ACalls Tryz.prog i_status_Right_1 [msV m, .ptr id 0] σ fun v σ' => v = boolv (!missOk w m) ∧ σ' = σ := by
  refine k_status_Right_1 rfl ?_
  (refine wX ?_)
  refine anew rfl fun i1 h1 => ?_
  have n1 : id ≠ i1 := fun e => by subst e; rw [h] at h1; cases h1
  (refine wX ?_)
  refine aloads (l := (msV m).cells) (upd_same _ _ _) (by exact Nat.le_refl 4) rfl ?_
  (refine wX ?_)
  refine aload (by rw [upd_ne _ _ n1]; exact h) rfl ?_
  (refine wX ?_)
  refine acall (tIsMiss m w _) ?_
  rintro _ σ_ ⟨rfl, e_⟩
  obtain rfl := e_.symm
  refine ⟨?_, Ext.refl _⟩
  (refine wX ?_)
  exact aret (VLe.refl _) (Sub.upd_fresh _ h1) ⟨rfl, rfl⟩
theorem get_ms {l : List Ms} {i : Nat} (h : i < l.length) : (l.map msV)[((i : Nat) : Int).toNat]? = some (msV l[i]) := by
  rw [Int.toNat_natCast, List.getElem?_map, List.getElem?_eq_getElem h]; rfl
set_option maxRecDepth 20000 in
theorem tIndex (l : List Ms) (t : Tok) (w : Int) (id : Nat) (σ : AHeap) (h : σ id = some (.cells [i64v w])) (hl : l.length ≤ 9223372036854775807) :
    ACalls Tryz.prog i_slices_IndexFunc_status_Miss [missV t l, .func i_status_Right_1 [] [.ptr id 0]] σ fun v σ' => (∃ n : Int, v = i64v n ∧ (0 ≤ n ↔ l.all (missOk w) = false)) ∧ σ' = σ := by
  refine k_slices_IndexFunc_status_Miss rfl ?_
  (refine wX ?_)
  rw [List.length_map]
  skip
  refine aloop (α := Nat) (fun i => [(s8, i64v i)]) (fun _ => σ) (fun i => i ≤ l.length ∧ (l.take i).all (missOk w) = true) (fun i => l.length - i) 0 ⟨Nat.zero_le _, rfl⟩ (Sub.refl _) ?_ ?_
  · (refine wX ?_)
    exact elX
  rintro i ⟨hi, hall⟩
  by_cases hlt : i < l.length
  · (refine wX ?_)
    (repeat ((refine abr_yes (by omega) ?_); (refine wX ?_)))
    refine aget (by omega) (get_ms hlt) ?_
    (refine wX ?_)
    refine acells (l := (msV l[i]).cells) (by exact Nat.le_refl 4) rfl ?_
    (refine wX ?_)
    refine ⟨rfl, ?_⟩
    (refine wX ?_)
    refine acall (tRight1 l[i] w id _ h) ?_
    rintro _ σ_ ⟨rfl, e_⟩
    obtain rfl := e_.symm
    (refine wX ?_)
    cases hm : missOk w l[i]
    · (refine wX ?_)
      refine aret_same ⟨⟨_, rfl, ?_⟩, rfl⟩
      refine ⟨fun _ => Bool.eq_false_iff.2 fun h => ?_, fun _ => by omega⟩
      rw [List.all_eq_true.1 h _ (List.getElem_mem hlt)] at hm
      cases hm
    · (refine wX ?_)
      (repeat ((refine afit_i64 (by omega) ?_); (refine wX ?_)))
      refine ⟨i + 1, ⟨hlt, ?_⟩, by omega, Sub.refl _, ?_⟩
      · rw [List.take_add_one, List.getElem?_eq_getElem hlt, List.all_append, hall]; simp [hm]
      · (refine wX ?_)
        exact elX
  · rw [List.take_of_length_le (by omega)] at hall
    (refine wX ?_)
    (repeat ((refine abr_no (by omega) ?_); (refine wX ?_)))
    refine aret_same ⟨⟨_, rfl, ?_⟩, rfl⟩
    rw [hall]
    exact ⟨fun h => absurd h (by decide), fun h => by cases h⟩
theorem tContains (l : List Ms) (t : Tok) (w : Int) (id : Nat) (σ : AHeap) (h : σ id = some (.cells [i64v w])) (hl : l.length ≤ 9223372036854775807) :
    ACalls Tryz.prog i_slices_ContainsFunc_status_Miss [missV t l, .func i_status_Right_1 [] [.ptr id 0]] σ fun v σ' => v = boolv (!l.all (missOk w)) ∧ σ' = σ := by
  refine k_slices_ContainsFunc_status_Miss rfl ?_
  (refine wX ?_)
  refine acall (tIndex l t w id _ h hl) ?_
  rintro _ σ_ ⟨⟨n, rfl, hn⟩, e_⟩
  obtain rfl := e_.symm
  refine ⟨?_, Ext.refl _⟩
  (refine wX ?_)
  refine aret_same ⟨congrArg boolv ?_, rfl⟩
  cases ha : l.all (missOk w)
  · have := hn.2 ha
    simp [this]
  · have : ¬ 0 ≤ n := fun h => by rw [hn.1 h] at ha; cases ha
    simp; omega
set_option maxRecDepth 20000 in
theorem tRight (s : Int × List Ms) (t : Tok) (w : Int) (σ : AHeap) (hl : s.2.length ≤ 9223372036854775807) : ACalls Tryz.prog i_status_Right [stV t s, i64v w] σ fun v σ' => v = boolv (stOk w s) ∧ σ' = σ := by
  obtain ⟨ack, l⟩ := s
  dsimp only at hl
  refine k_status_Right rfl ?_
  (refine wX ?_)
  refine anew rfl fun i1 h1 => ?_
  (refine wX ?_)
  refine anew rfl fun i2 h2 => ?_
  have n12 : i1 ≠ i2 := fun e => by subst e; rw [upd_same] at h2; cases h2
  have b2 : σ i2 = none := sub_none (Sub.upd_fresh _ h1) h2
  have hs1 : Sub (upd (upd σ i1 (.cells (stV t (ack, l)).cells)) i2 (.cells (i64v w).cells)) σ := sub_upd _ (Sub.upd_fresh _ h1) b2
  have k1 : upd (upd σ i1 (.cells (stV t (ack, l)).cells)) i2 (.cells (i64v w).cells) i1 = some (.cells [i64v ack, missV t l]) := by rw [upd_ne _ _ n12]; exact upd_same _ _ _
  have k2 : upd (upd σ i1 (.cells (stV t (ack, l)).cells)) i2 (.cells (i64v w).cells) i2 = some (.cells [i64v w]) := upd_same _ _ _
  generalize upd (upd σ i1 (.cells (stV t (ack, l)).cells)) i2 (.cells (i64v w).cells) = τ at *
  (refine wX ?_)
  have k1 : τ i1 = some (.cells [i64v ack, missV t l]) := k1
  have k2 : τ i2 = some (.cells [i64v w]) := k2
  have hs1 : Sub τ σ := hs1
  refine aload k2 rfl ?_
  (refine wX ?_)
  refine anew rfl fun i3 h3 => ?_
  have n13 : i1 ≠ i3 := fun e => by subst e; rw [k1] at h3; cases h3
  have n23 : i2 ≠ i3 := fun e => by subst e; rw [k2] at h3; cases h3
  (refine wX ?_)
  refine astore (xs := [i64v w]) (l := [i64v w]) (upd_same _ _ _) (by exact Nat.le_refl 1) rfl rfl ?_
  rw [upd_upd]
  have k1 : upd τ i3 (.cells [i64v w]) i1 = some (.cells [i64v ack, missV t l]) := (upd_ne _ _ n13).trans k1
  have k2 : upd τ i3 (.cells [i64v w]) i2 = some (.cells [i64v w]) := (upd_ne _ _ n23).trans k2
  have k3 : upd τ i3 (.cells [i64v w]) i3 = some (.cells [i64v w]) := upd_same _ _ _
  have hs : Sub (upd τ i3 (.cells [i64v w])) σ := sub_upd _ hs1 (sub_none hs1 h3)
  generalize upd τ i3 (.cells [i64v w]) = υ at *
  (refine wX ?_)
  refine aload k2 rfl ?_
  (refine wX ?_)
  refine acall (tIsWidth w _) ?_
  rintro _ σ_ ⟨rfl, e_⟩
  obtain rfl := e_.symm
  refine ⟨?_, Ext.refl _⟩
  (refine wX ?_)
  cases hw : stWidth w
  · (refine wX ?_)
    exact aret (VLe.refl _) hs ⟨by unfold stOk; rw [hw]; rfl, rfl⟩
  (refine wX ?_)
  refine aloads (l := [i64v w]) k3 (by exact Nat.le_refl 1) rfl ?_
  (refine wX ?_)
  refine aload k1 rfl ?_
  (refine wX ?_)
  refine acall (sqIs w ack _) ?_
  rintro _ σ_ ⟨rfl, e_⟩
  obtain rfl := e_.symm
  refine ⟨?_, Ext.refl _⟩
  (refine wX ?_)
  cases ha : isNum w ack
  · (refine wX ?_)
    exact aret (VLe.refl _) hs ⟨by unfold stOk; dsimp only; rw [ha, Bool.and_false]; rfl, rfl⟩
  (refine wX ?_)
  refine aload k1 rfl ?_
  (refine wX ?_)
  rw [List.length_map]
  by_cases h32 : l.length ≤ 32
  · (repeat ((first | refine aload (by (repeat (first | with_reducible exact upd_same _ _ _ | assumption | rw [upd_ne _ _ (by first | assumption | (apply Ne.symm; assumption))]))) rfl ?_ | refine abr_yes (by omega) ?_); (refine wX ?_)))
    refine acall (tContains l t w i2 _ k2 hl) ?_
    rintro _ σ_ ⟨rfl, e_⟩
    obtain rfl := e_.symm
    refine ⟨?_, Ext.refl _⟩
    (refine wX ?_)
    refine aret (VLe.refl _) hs ⟨?_, rfl⟩
    unfold stOk
    dsimp only
    rw [hw, ha, decide_eq_true h32]
    cases l.all (missOk w) <;> rfl
  · (repeat ((refine abr_no (by omega) ?_); (refine wX ?_)))
    exact aret (VLe.refl _) hs ⟨by unfold stOk; dsimp only; rw [decide_eq_false h32, Bool.and_false]; rfl, rfl⟩
end Go.Proofs.YtgbpjbpdpgbngaaGreat
/-
  Bits in bytes: plain laws.
-/
namespace Go.Proofs.YtgbpjbpdpgbngaaGreat
open Go Go.Am

def byte8 (a b c d e f g h : Bool) : UInt8 :=
  UInt8.ofNat (a.toNat * 128 + b.toNat * 64 + c.toNat * 32 + d.toNat * 16 + e.toNat * 8 + f.toNat * 4 + g.toNat * 2 + h.toNat)
def bitD (l : List Bool) (i : Nat) : Bool := l[i]?.getD false
/-- The byte at a place of a list of bits, filled up with noughts. -/
def byteAt (l : List Bool) (i : Nat) : UInt8 := byte8 (bitD l (8 * i)) (bitD l (8 * i + 1)) (bitD l (8 * i + 2)) (bitD l (8 * i + 3)) (bitD l (8 * i + 4)) (bitD l (8 * i + 5)) (bitD l (8 * i + 6)) (bitD l (8 * i + 7))
/-- A list of bits, as bytes. -/
def pack (l : List Bool) : List UInt8 := (List.range ((l.length + 7) / 8)).map (byteAt l)
theorem pack_length (l : List Bool) : (pack l).length = (l.length + 7) / 8 := by unfold pack; simp

theorem bitD_out {l : List Bool} {i : Nat} (h : l.length ≤ i) : bitD l i = false := by unfold bitD; rw [List.getElem?_eq_none h]; rfl

/-- One bit more, as the writer puts it. -/
def grow (l : List Bool) : List UInt8 := if l.length % 8 = 0 then pack l ++ [0] else pack l
end Go.Proofs.YtgbpjbpdpgbngaaGreat
/-
  What the functions of the package of bits do.
-/
namespace Go.Proofs.YtgbpjbpdpgbngaaGreat
open Go Go.Am

/-- A writer at an object, with its bits; the heap without it. -/
def Wr (σ : AHeap) (id : Nat) (bs : List Bool) (σb : AHeap) : Prop :=
  σb id = none ∧ ((bs = [] ∧ σ = upd σb id (.cells [.slice 1 [] .full, i64v bs.length])) ∨
    (bs ≠ [] ∧ ∃ r, r ≠ id ∧ σb r = none ∧ σ = upd (upd σb r (.cells ((pack bs).map byteV))) id (.cells [.ms r 1 0 (pack bs).length, i64v bs.length])))

end Go.Proofs.YtgbpjbpdpgbngaaGreat
/-
  Numbers and their bits: plain laws.
-/
namespace Go.Proofs.YtgbpjbpdpgbngaaGreat
open Go Go.Am

/-- The bits of a number, the highest first. -/
def numBits (v : Nat) : Nat → List Bool
  | 0 => []
  | n + 1 => v.testBit n :: numBits v n
theorem numBits_length (v n : Nat) : (numBits v n).length = n := by
  induction n with
  | zero => rfl
  | succ n ih => simp [numBits, ih]
theorem testBit_nat (v i : Nat) : (v.testBit i).toNat = v / 2 ^ i % 2 := Nat.toNat_testBit v i

/-- The number that bits are, behind a number. -/
def val (a : Nat) : List Bool → Nat
  | [] => a
  | b :: l => val (2 * a + b.toNat) l
theorem val_append (a : Nat) (l m : List Bool) : val a (l ++ m) = val (val a l) m := by
  induction l generalizing a with
  | nil => rfl
  | cons b l ih => simp [val, ih]
theorem val_eq (a : Nat) (l : List Bool) : val a l = a * 2 ^ l.length + val 0 l := by
  induction l generalizing a with
  | nil => simp [val]
  | cons b l ih =>
    have h1 := ih (2 * a + b.toNat)
    have h2 := ih (2 * 0 + b.toNat)
    simp only [val, List.length_cons]
    rw [h1, h2, Nat.pow_succ, Nat.add_mul, Nat.add_mul]
    have e : 2 * a * 2 ^ l.length = a * (2 ^ l.length * 2) := by rw [Nat.mul_comm 2 a, Nat.mul_assoc, Nat.mul_comm 2]
    omega
theorem val_lt (l : List Bool) : val 0 l < 2 ^ l.length := by
  induction l with
  | nil => simp [val]
  | cons b l ih =>
    simp only [val, List.length_cons]
    rw [val_eq, Nat.pow_succ]
    have : b.toNat ≤ 1 := by cases b <;> decide
    have h2 : (2 * 0 + b.toNat) * 2 ^ l.length ≤ 1 * 2 ^ l.length := Nat.mul_le_mul (by omega) (Nat.le_refl _)
    omega
/-- What a writer does with a number: its bits, and how it answers. -/
def putBad (v : Nat) (n : Int) : Bool := decide (n < 0) || decide (n > 64) || decide (v / 2 ^ n.toNat ≠ 0)
def putCode (k : Nat) (v : Nat) (n : Int) : Int := if putBad v n = true then 1 else if n > 65536 - (k : Int) then 5 else 0
def putBits (bs : List Bool) (v : Nat) (n : Int) : List Bool := if putCode bs.length v n = 0 then bs ++ numBits v n.toNat else bs
theorem putBits_ok {bs : List Bool} {v : Nat} {n : Int} (h : putCode bs.length v n = 0) : putBits bs v n = bs ++ numBits v n.toNat := if_pos h
theorem bitD_get {l : List Bool} {i : Nat} (h : i < l.length) : bitD l i = l[i] := by unfold bitD; rw [List.getElem?_eq_getElem h]; rfl
theorem val_snoc (a : Nat) (l : List Bool) (b : Bool) : val a (l ++ [b]) = 2 * val a l + b.toNat := by rw [val_append]; rfl
end Go.Proofs.YtgbpjbpdpgbngaaGreat
/-
  What a writer does.
-/
namespace Go.Proofs.YtgbpjbpdpgbngaaGreat
open Go Go.Am

end Go.Proofs.YtgbpjbpdpgbngaaGreat
/-
  A writer's number put.
-/
namespace Go.Proofs.YtgbpjbpdpgbngaaGreat
open Go Go.Am

theorem Wr.cell {σ σb : AHeap} {id : Nat} {bs : List Bool} (h : Wr σ id bs σb) : ∃ c, σ id = some (.cells [c, i64v bs.length]) := by
  obtain ⟨hid, h⟩ := h
  rcases h with ⟨hnil, rfl⟩ | ⟨hne, r, hri, hr, rfl⟩
  · exact ⟨_, upd_same _ _ _⟩
  · exact ⟨_, upd_same _ _ _⟩

theorem putCode_bad {k v : Nat} {n : Int} (h : putBad v n = true) : putCode k v n = 1 := if_pos h
theorem putCode_full {k v : Nat} {n : Int} (h : putBad v n = false) (hn : n > 65536 - (k : Int)) : putCode k v n = 5 := by unfold putCode; rw [h]; simp; omega
theorem putCode_fine {k v : Nat} {n : Int} (h : putBad v n = false) (hn : ¬ n > 65536 - (k : Int)) : putCode k v n = 0 := by unfold putCode; rw [h]; simp; omega

end Go.Proofs.YtgbpjbpdpgbngaaGreat
/-
  What a reader does.
-/
namespace Go.Proofs.YtgbpjbpdpgbngaaGreat
open Go Go.Am

/-- A reader at an object, with its bytes and its place; the heap without it. -/
def Rd (σ : AHeap) (id : Nat) (b : List UInt8) (k : Nat) (σb : AHeap) : Prop :=
  σb id = none ∧ k ≤ 8 * b.length ∧ b.length ≤ 8192 ∧ ∃ tk, σ = upd σb id (.cells [sl tk b, i64v k])

end Go.Proofs.YtgbpjbpdpgbngaaGreat
/-
  Parts of the objects' heap that stand side by side.
-/
namespace Go.Proofs.YtgbpjbpdpgbngaaGreat
open Go Go.Am

def join (A σ : AHeap) : AHeap := fun j => match A j with | some o => some o | none => σ j
/-- A heap is another one, and a part of its own beside. -/
def Has (S : AHeap → Prop) (σ σb : AHeap) : Prop := ∃ A, S A ∧ (∀ j, A j ≠ none → σb j = none) ∧ σ = join A σb

theorem Has.sub {S : AHeap → Prop} {σ σb : AHeap} (h : Has S σ σb) : Sub σ σb := by
  obtain ⟨A, _, h2, rfl⟩ := h
  intro j o e
  unfold join
  cases hA : A j with
  | none => exact e
  | some x => rw [h2 j (by rw [hA]; nofun)] at e; cases e
theorem Has.gone {S : AHeap → Prop} {σ σb : AHeap} (h : Has S σ σb) {j : Nat} (hj : σ j = none) : σb j = none := by
  obtain ⟨A, _, h2, rfl⟩ := h
  unfold join at hj
  cases hA : A j with
  | none => rw [hA] at hj; exact hj
  | some x => rw [hA] at hj; cases hj
theorem Has.swap {S T : AHeap → Prop} {σ2 σ1 σ0 : AHeap} (h : Has S σ2 σ1) (k : Has T σ1 σ0) : ∃ σ', Has T σ2 σ' ∧ Has S σ' σ0 := by
  obtain ⟨A, hS, hA, rfl⟩ := h
  obtain ⟨B, hT, hB, rfl⟩ := k
  have hAB : ∀ j, A j ≠ none → B j = none ∧ σ0 j = none := by
    intro j hj
    have := hA j hj
    unfold join at this
    cases hb : B j with
    | none => rw [hb] at this; exact ⟨rfl, this⟩
    | some x => rw [hb] at this; cases this
  refine ⟨join A σ0, ⟨B, hT, ?_, ?_⟩, A, hS, fun j hj => (hAB j hj).2, rfl⟩
  · intro j hj
    unfold join
    cases ha : A j with
    | none => exact hB j hj
    | some x => exact absurd (hAB j (by rw [ha]; nofun)).1 hj
  · funext j
    unfold join
    cases ha : A j with
    | none => rfl
    | some x => rw [(hAB j (by rw [ha]; nofun)).1]

theorem Has.ext {S : AHeap → Prop} {σ σb : AHeap} (h : Has S σ σb) : Ext σb σ := by
  obtain ⟨A, _, h2, rfl⟩ := h
  intro j o _ e
  unfold join
  cases hA : A j with
  | none => exact e
  | some x => rw [h2 j (by rw [hA]; nofun)] at e; cases e

theorem join_upd (A σ : AHeap) (id : Nat) (o : AObj) : join (upd A id o) σ = upd (join A σ) id o := by
  funext j
  unfold join
  by_cases e : j = id
  · subst e; rw [upd_same, upd_same]
  · rw [upd_ne _ _ e, upd_ne _ _ e]
theorem join_none (σ : AHeap) : join (fun _ => none) σ = σ := rfl

theorem Wr.has {σ σb : AHeap} {id : Nat} {bs : List Bool} : Wr σ id bs σb ↔ Has (fun A => Wr A id bs fun _ => none) σ σb := by
  constructor
  · rintro ⟨hid, ⟨hnil, rfl⟩ | ⟨hne, r, hri, hr, rfl⟩⟩
    · refine ⟨_, ⟨rfl, .inl ⟨hnil, rfl⟩⟩, ?_, ?_⟩
      · intro j hj
        by_cases e : j = id
        · subst e; exact hid
        · rw [upd_ne _ _ e] at hj; exact absurd rfl hj
      · rw [join_upd, join_none]
    · refine ⟨_, ⟨rfl, .inr ⟨hne, r, hri, rfl, rfl⟩⟩, ?_, ?_⟩
      · intro j hj
        by_cases e : j = id
        · subst e; exact hid
        · rw [upd_ne _ _ e] at hj
          by_cases e2 : j = r
          · subst e2; exact hr
          · rw [upd_ne _ _ e2] at hj; exact absurd rfl hj
      · rw [join_upd, join_upd, join_none]
  · rintro ⟨A, ⟨_, ⟨hnil, rfl⟩ | ⟨hne, r, hri, _, rfl⟩⟩, hd, rfl⟩
    · have hid := hd id (by rw [upd_same]; nofun)
      exact ⟨hid, .inl ⟨hnil, by rw [join_upd, join_none]⟩⟩
    · have hid := hd id (by rw [upd_same]; nofun)
      have hr := hd r (by rw [upd_ne _ _ hri, upd_same]; nofun)
      exact ⟨hid, .inr ⟨hne, r, hri, hr, by rw [join_upd, join_upd, join_none]⟩⟩
theorem Rd.has {σ σb : AHeap} {id : Nat} {b : List UInt8} {k : Nat} : Rd σ id b k σb ↔ Has (fun A => Rd A id b k fun _ => none) σ σb := by
  constructor
  · rintro ⟨hid, h1, h2, tk, rfl⟩
    refine ⟨_, ⟨rfl, h1, h2, tk, rfl⟩, ?_, ?_⟩
    · intro j hj
      by_cases e : j = id
      · subst e; exact hid
      · rw [upd_ne _ _ e] at hj; exact absurd rfl hj
    · rw [join_upd, join_none]
  · rintro ⟨A, ⟨_, h1, h2, tk, rfl⟩, hd, rfl⟩
    exact ⟨hd id (by rw [upd_same]; nofun), h1, h2, tk, by rw [join_upd, join_none]⟩
theorem Wr.sub {σ σb : AHeap} {id : Nat} {bs : List Bool} (h : Wr σ id bs σb) : Sub σ σb := (Wr.has.1 h).sub
theorem Rd.sub {σ σb : AHeap} {id : Nat} {b : List UInt8} {k : Nat} (h : Rd σ id b k σb) : Sub σ σb := (Rd.has.1 h).sub
theorem Wr.ext {σ σb : AHeap} {id : Nat} {bs : List Bool} (h : Wr σ id bs σb) : Ext σb σ := (Wr.has.1 h).ext
theorem Rd.ext {σ σb : AHeap} {id : Nat} {b : List UInt8} {k : Nat} (h : Rd σ id b k σb) : Ext σb σ := (Rd.has.1 h).ext
end Go.Proofs.YtgbpjbpdpgbngaaGreat
/-
  Appending to a slice with the right to, whatever else stands beside it.
-/
namespace Go.Proofs.YtgbpjbpdpgbngaaGreat
open Go Go.Am

/-- What stands above what has the right to append may skip. -/
theorem Owned.less {σ σx σ3 : AHeap} {tk : Tok} (h : Owned σx σ3 tk) (hs : Sub σx σ) : ∃ σ4, Owned σ σ4 tk ∧ Sub σ3 σ4 := by
  rcases h with ⟨rfl, rfl⟩ | ⟨t, h0, rfl, rfl⟩
  · exact ⟨σ, .full _, hs⟩
  · refine ⟨upd σ t .tip, .tip ?_, Sub.upd hs _ _⟩
    cases e : σ t with
    | none => rfl
    | some o => rw [hs _ _ e] at h0; cases h0
end Go.Proofs.YtgbpjbpdpgbngaaGreat
/-
  Statuses: their bits, how many bytes these are, writing them.
-/
namespace Go.Proofs.YtgbpjbpdpgbngaaGreat
open Go Go.Am

def lastV (w to : Int) : Nat := if to = 0 then (plcs w).toNat - 1 else to.toNat - 1
def missBits (w : Int) (more : Bool) (m : Ms) : List Bool :=
  numBits m.1.toNat w.toNat ++ ([more] ++ ([m.2.1] ++ if m.2.1 = true then numBits m.2.2.1.toNat (offWSt w) ++ numBits (lastV w m.2.2.2) (offWSt w) else []))
def mssBits (w : Int) : List Ms → List Bool
  | [] => []
  | m :: l => missBits w (!l.isEmpty) m ++ mssBits w l
def stBits (w : Int) (s : Int × List Ms) : List Bool := List.replicate 4 false ++ (numBits s.1.toNat w.toNat ++ ([decide (0 < s.2.length)] ++ mssBits w s.2))
def missLen (w : Int) (m : Ms) : Int := w + 2 + if m.2.1 = true then 2 * (offWSt w : Int) else 0
def mssLen (w : Int) : List Ms → Int
  | [] => 0
  | m :: l => missLen w m + mssLen w l
theorem missBits_length {w : Int} (hw : 0 ≤ w) (more : Bool) (m : Ms) : ((missBits w more m).length : Int) = missLen w m := by
  unfold missBits missLen
  simp only [List.length_append, numBits_length, List.length_singleton]
  split
  · simp only [List.length_append, numBits_length]; omega
  · simp only [List.length_nil]; omega
theorem mssBits_length {w : Int} (hw : 0 ≤ w) : ∀ l : List Ms, ((mssBits w l).length : Int) = mssLen w l
  | [] => rfl
  | m :: l => by
    unfold mssBits mssLen
    rw [List.length_append, Int.natCast_add, missBits_length hw, mssBits_length hw l]
theorem stBits_length {w : Int} (hw : 0 ≤ w) (s : Int × List Ms) : ((stBits w s).length : Int) = 5 + w + mssLen w s.2 := by
  unfold stBits
  simp only [List.length_append, numBits_length, List.length_singleton, List.length_replicate, Int.natCast_add, mssBits_length hw]
  omega
theorem offW_le (w : Int) : offWSt w ≤ 16 := by unfold offWSt; split <;> omega
theorem stWidth_iff {w : Int} : stWidth w = true ↔ w = 10 ∨ w = 16 := by simp [stWidth]
theorem missLen_le {w : Int} (hw : 0 ≤ w ∧ w ≤ 16) (m : Ms) : 0 ≤ missLen w m ∧ missLen w m ≤ 50 := by
  have := offW_le w
  unfold missLen; split <;> omega
theorem mssLen_le {w : Int} (hw : 0 ≤ w ∧ w ≤ 16) : ∀ l : List Ms, 0 ≤ mssLen w l ∧ mssLen w l ≤ 50 * l.length
  | [] => ⟨Int.le_refl _, Int.le_refl _⟩
  | m :: l => by
    have h1 := missLen_le hw m
    have h2 := mssLen_le hw l
    unfold mssLen
    rw [List.length_cons]; omega
theorem mssLen_append (w : Int) : ∀ a b : List Ms, mssLen w (a ++ b) = mssLen w a + mssLen w b
  | [], b => by show mssLen w b = 0 + _; omega
  | m :: a, b => by
    show missLen w m + mssLen w (a ++ b) = missLen w m + mssLen w a + _
    rw [mssLen_append w a b]; omega
def sizeSt (w : Int) (s : Int × List Ms) : Int := if stOk w s = true then (5 + w + mssLen w s.2 + 7) / 8 else 0
theorem stOk_parts {w : Int} {s : Int × List Ms} (h : stOk w s = true) : (w = 10 ∨ w = 16) ∧ isNum w s.1 = true ∧ s.2.length ≤ 32 ∧ s.2.all (missOk w) = true := by
  unfold stOk at h
  simp only [Bool.and_eq_true, decide_eq_true_eq, stWidth_iff] at h
  exact ⟨h.1.1.1, h.1.1.2, h.1.2, h.2⟩

set_option maxRecDepth 20000 in
theorem tSize (s : Int × List Ms) (t : Tok) (w : Int) (σ : AHeap) (hl : s.2.length ≤ 9223372036854775807) : ACalls Tryz.prog i_status_Size [stV t s, i64v w] σ fun v σ' => v = i64v (sizeSt w s) ∧ σ' = σ := by
  obtain ⟨ack, l⟩ := s
  dsimp only at hl
  refine k_status_Size rfl ?_
  (refine wX ?_)
  refine anew rfl fun i1 h1 => ?_
  have k1 : upd σ i1 (.cells (stV t (ack, l)).cells) i1 = some (.cells [i64v ack, missV t l]) := upd_same _ _ _
  have hs : Sub (upd σ i1 (.cells (stV t (ack, l)).cells)) σ := Sub.upd_fresh _ h1
  generalize upd σ i1 (.cells (stV t (ack, l)).cells) = τ at *
  (refine wX ?_)
  refine aloads (l := [i64v ack, missV t l]) k1 (by exact Nat.le_refl 2) rfl ?_
  (refine wX ?_)
  refine acall (tRight (ack, l) t w _ hl) ?_
  rintro _ σ_ ⟨rfl, e_⟩
  obtain rfl := e_.symm
  refine ⟨?_, Ext.refl _⟩
  (refine wX ?_)
  cases hok : stOk w (ack, l)
  · (refine wX ?_)
    exact aret (VLe.refl _) hs ⟨by unfold sizeSt; rw [hok]; rfl, rfl⟩
  obtain ⟨hw, hn, h32, hall⟩ := stOk_parts hok
  dsimp only at hn h32 hall
  have hb := mssLen_le (w := w) (by omega)
  (refine wX ?_)
  (repeat ((first | refine aload (by (repeat (first | with_reducible exact upd_same _ _ _ | assumption | rw [upd_ne _ _ (by first | assumption | (apply Ne.symm; assumption))]))) rfl ?_ | refine afit_i64 (by omega) ?_ | rw [List.length_map]); (refine wX ?_)))
  refine aloop (α := Nat × AHeap) (fun x => [(s5, i64v (5 + w + mssLen w (l.take x.1))), (s18, i64v x.1)]) (fun x => x.2) (fun x => x.1 ≤ l.length ∧ Sub x.2 σ) (fun x => l.length - x.1) (0, τ) ⟨Nat.zero_le _, hs⟩ (Sub.refl _) ?_ ?_
  · rw [List.take_zero, show 5 + w + mssLen w [] = 4 + w + 1 by show 5 + w + 0 = _; omega]
    (refine wX ?_)
    exact elX
  rintro ⟨i, υ⟩ ⟨hi, hsu⟩
  dsimp only at hi hsu ⊢
  have hbi := hb (l.take i)
  rw [List.length_take] at hbi
  by_cases h : i < l.length
  · have hsn : mssLen w (l.take (i + 1)) = mssLen w (l.take i) + missLen w l[i] := by
      rw [show l.take (i + 1) = l.take i ++ [l[i]] from (List.take_append_getElem h).symm, mssLen_append]
      show _ = _ + _; unfold mssLen; unfold mssLen; omega
    have hml := missLen_le (w := w) (by omega) l[i]
    have hoff := offW_le w
    (refine wX ?_)
    (repeat ((refine abr_yes (by omega) ?_); (refine wX ?_)))
    refine aget (by omega) (get_ms h) ?_
    (refine wX ?_)
    refine acells (l := (msV l[i]).cells) (by exact Nat.le_refl 4) rfl ?_
    (refine wX ?_)
    refine anew rfl fun i7 h7 => ?_
    (refine wX ?_)
    refine astore (xs := (msV l[i]).cells) (l := [i64v l[i].1, boolv l[i].2.1, i64v l[i].2.2.1, i64v l[i].2.2.2]) (upd_same _ _ _) (by exact Nat.le_refl 4) rfl rfl ?_
    rw [upd_upd]
    have k7 : upd υ i7 (.cells [i64v l[i].1, boolv l[i].2.1, i64v l[i].2.2.1, i64v l[i].2.2.2]) i7 = some (.cells [i64v l[i].1, boolv l[i].2.1, i64v l[i].2.2.1, i64v l[i].2.2.2]) := upd_same _ _ _
    have hs7 : Sub (upd υ i7 (.cells [i64v l[i].1, boolv l[i].2.1, i64v l[i].2.2.1, i64v l[i].2.2.2])) σ := sub_upd _ hsu (sub_none hsu h7)
    generalize upd υ i7 (.cells [i64v l[i].1, boolv l[i].2.1, i64v l[i].2.2.1, i64v l[i].2.2.2]) = υ2 at *
    (refine wX ?_)
    (repeat ((first | refine aload (by (repeat (first | with_reducible exact upd_same _ _ _ | assumption | rw [upd_ne _ _ (by first | assumption | (apply Ne.symm; assumption))]))) rfl ?_ | refine afit_i64 (by omega) ?_); (refine wX ?_)))
    cases hp : l[i].2.1
    · have hl2 : missLen w l[i] = w + 2 := by unfold missLen; rw [hp, if_neg (by decide)]; omega
      (refine wX ?_)
      (repeat ((refine afit_i64 (by omega) ?_); (refine wX ?_)))
      refine ⟨(i + 1, υ2), ⟨h, hs7⟩, by dsimp only; omega, Sub.refl _, ?_⟩
      rw [hsn, hl2, show 5 + w + (mssLen w (l.take i) + (w + 2)) = 5 + w + mssLen w (l.take i) + (w + 2) by omega]
      (refine wX ?_)
      exact elX
    · have hl2 : missLen w l[i] = w + 2 + 2 * (offWSt w : Int) := by unfold missLen; rw [hp, if_pos rfl]
      (refine wX ?_)
      refine acall (tOff w _) ?_
      rintro _ σ_ ⟨rfl, e_⟩
      obtain rfl := e_.symm
      refine ⟨?_, Ext.refl _⟩
      (refine wX ?_)
      (repeat ((refine afit_i64 (by omega) ?_); (refine wX ?_)))
      refine ⟨(i + 1, υ2), ⟨h, hs7⟩, by dsimp only; omega, Sub.refl _, ?_⟩
      rw [hsn, hl2, show 5 + w + (mssLen w (l.take i) + (w + 2 + 2 * (offWSt w : Int))) = 5 + w + mssLen w (l.take i) + (w + 2) + 2 * (offWSt w : Int) by omega]
      (refine wX ?_)
      exact elX
  · obtain rfl : i = l.length := by omega
    rw [List.take_length] at hbi ⊢
    (refine wX ?_)
    (repeat ((first | refine afit_i64 (by omega) ?_ | refine adiv_i64 (by omega) (by omega) ?_ | refine abr_no (by omega) ?_); (refine wX ?_)))
    refine aret (VLe.refl _) hsu ⟨?_, rfl⟩
    unfold sizeSt
    rw [hok, if_pos rfl]
    congr 3
    dsimp only
    omega

theorem Wr.new {σ σb : AHeap} {id : Nat} {bs : List Bool} (h : Wr σ id bs σb) {j : Nat} (o : AObj) (hj : σ j = none) : Wr (upd σ j o) id bs (upd σb j o) ∧ σb j = none := by
  obtain ⟨hid, h⟩ := h
  rcases h with ⟨hn, rfl⟩ | ⟨hn, r, hri, hr, rfl⟩
  · have e : j ≠ id := fun e => by subst e; rw [upd_same] at hj; cases hj
    rw [upd_ne _ _ e] at hj
    exact ⟨⟨by rw [upd_ne _ _ (Ne.symm e)]; exact hid, .inl ⟨hn, upd_comm _ _ _ (Ne.symm e)⟩⟩, hj⟩
  · have e : j ≠ id := fun e => by subst e; rw [upd_same] at hj; cases hj
    rw [upd_ne _ _ e] at hj
    have e2 : j ≠ r := fun e => by subst e; rw [upd_same] at hj; cases hj
    rw [upd_ne _ _ e2] at hj
    refine ⟨⟨by rw [upd_ne _ _ (Ne.symm e)]; exact hid, .inr ⟨hn, r, hri, by rw [upd_ne _ _ (Ne.symm e2)]; exact hr, ?_⟩⟩, hj⟩
    rw [upd_comm _ _ _ (Ne.symm e), upd_comm _ _ _ (Ne.symm e2)]
theorem Wr.keep {σ σb : AHeap} {id : Nat} {bs : List Bool} (h : Wr σ id bs σb) {j : Nat} {o : AObj} (hj : σb j = some o) : σ j = some o := by
  obtain ⟨hid, h⟩ := h
  have e : j ≠ id := fun e => by subst e; rw [hid] at hj; cases hj
  rcases h with ⟨hn, rfl⟩ | ⟨hn, r, hri, hr, rfl⟩
  · rw [upd_ne _ _ e]; exact hj
  · have e2 : j ≠ r := fun e => by subst e; rw [hr] at hj; cases hj
    rw [upd_ne _ _ e, upd_ne _ _ e2]; exact hj
theorem put_fine (bs : List Bool) (v : Nat) (n : Int) (h0 : 0 ≤ n) (h64 : n ≤ 64) (hl : (bs.length : Int) + n ≤ 65536) (hv : v < 2 ^ n.toNat) : putCode bs.length v n = 0 ∧ putBits bs v n = bs ++ numBits v n.toNat := by
  have hc : putCode bs.length v n = 0 := by
    refine putCode_fine ?_ (by omega)
    unfold putBad
    rw [decide_eq_false (by omega), decide_eq_false (by omega), decide_eq_false]
    · rfl
    · rw [Nat.div_eq_of_lt hv]; exact fun h => h rfl
  exact ⟨hc, putBits_ok hc⟩
theorem isNum_lt {w n : Int} (hw : w = 10 ∨ w = 16) (h : isNum w n = true) : 0 ≤ n ∧ n.toNat < 2 ^ w.toNat := by
  unfold isNum at h
  have h := of_decide_eq_true h
  rcases hw with rfl | rfl
  · rw [show spaceSize 10 = 1024 by decide] at h
    show _ ∧ _ < 1024
    omega
  · rw [show spaceSize 16 = 65536 by decide] at h
    show _ ∧ _ < 65536
    omega
theorem plcs_pow (w : Int) : (plcs w).toNat = 2 ^ offWSt w := by
  unfold plcs offWSt; split <;> rfl
theorem missOk_part {w : Int} {m : Ms} (h : missOk w m = true) (hp : m.2.1 = true) : 0 ≤ m.2.2.1 ∧ m.2.2.1.toNat < 2 ^ offWSt w ∧ 0 ≤ m.2.2.2 ∧ lastV w m.2.2.2 < 2 ^ offWSt w := by
  unfold missOk at h
  rw [hp, if_pos rfl, Bool.and_eq_true] at h
  have h := of_decide_eq_true h.2
  have hp := plcs_pow w
  have hpos : 0 < 2 ^ offWSt w := Nat.two_pow_pos _
  unfold lastV
  refine ⟨h.1, by omega, by omega, ?_⟩
  split
  · omega
  · omega
theorem missOk_num {w : Int} {m : Ms} (h : missOk w m = true) : isNum w m.1 = true := by
  unfold missOk at h; rw [Bool.and_eq_true] at h; exact h.1
end Go.Proofs.YtgbpjbpdpgbngaaGreat
/-
  The status of what came: plain.
-/
namespace Go.Proofs.YtgbpjbpdpgbngaaGreat
set_option maxRecDepth 20000
open Go Go.Am

/-- What of a number is missing, as misses. -/
def missOf (l : List Sp) (sn : Int) : List Ms := if l = [] then [(sn, false, 0, 0)] else l.map fun y => (sn, true, y.1, y.2)
theorem missOf_len (l : List Sp) (sn : Int) : (missOf l sn).length ≤ l.length + 1 := by
  unfold missOf
  split
  · simp
  · rw [List.length_map]; omega
/-- The misses of some numbers, as far as they fit. -/
def stGo (w g : Int) (f : Int → List Ms) : List Int → Int × List Ms → Int × List Ms
  | [], s => s
  | sn :: L, s => if (s.2 ++ f sn).length > 32 ∨ sizeSt w (s.1, s.2 ++ f sn) > g then (sn, s.2) else stGo w g f L (s.1, s.2 ++ f sn)
def mkRes (w g ack : Int) (L : List Int) (f : Int → List Ms) : (Int × List Ms) × Int :=
  if ¬ (w = 10 ∨ w = 16) then ((0, []), 9) else if g < 0 ∨ g > 4096 then ((0, []), 1) else if sizeSt w (0, []) > g then ((0, []), 16) else (stGo w g f L (ack, []), 0)
theorem stOk_iff {w : Int} {s : Int × List Ms} (hw : w = 10 ∨ w = 16) (hn : isNum w s.1 = true) (hm : ∀ m ∈ s.2, missOk w m = true) : stOk w s = decide (s.2.length ≤ 32) := by
  unfold stOk
  rw [show stWidth w = true from stWidth_iff.2 hw, hn, List.all_eq_true.2 hm]; simp
theorem size_ack {w a b : Int} {l : List Ms} (hw : w = 10 ∨ w = 16) (ha : isNum w a = true) (hb : isNum w b = true) (hm : ∀ m ∈ l, missOk w m = true) : sizeSt w (a, l) = sizeSt w (b, l) := by
  unfold sizeSt
  rw [stOk_iff (s := (a, l)) hw ha hm, stOk_iff (s := (b, l)) hw hb hm]
theorem size_zero {w a : Int} {l : List Ms} (hw : w = 10 ∨ w = 16) (ha : isNum w a = true) (hm : ∀ m ∈ l, missOk w m = true) : sizeSt w (a, l) = 0 ↔ l.length > 32 := by
  unfold sizeSt
  rw [stOk_iff (s := (a, l)) hw ha hm]
  have h := mssLen_le (w := w) (by omega) l
  by_cases hl : l.length ≤ 32
  · rw [if_pos (decide_eq_true hl)]
    dsimp only
    constructor
    · intro h2; omega
    · intro h2; omega
  · rw [if_neg (by simp [hl])]
    exact ⟨fun _ => by omega, fun _ => rfl⟩
/-- What is missing is told with places that may be. -/
theorem gapsV_in {l : List Sp} (h : SOk l) {to : Int} : ∀ y ∈ gapsV to l, 0 ≤ y.1 ∧ y.1 < y.2 ∧ y.2 ≤ to := by
  intro y hy
  unfold gapsV at hy
  by_cases ht : 1 ≤ to ∧ to ≤ 65536
  · rw [if_pos ht] at hy
    obtain ⟨h1, h2⟩ := gapsL_spec (to := to) ht.2 (k := 0) (l := l) h.n
    obtain ⟨g1, g2, g3⟩ := Nrm.mem h1 hy
    have h3 : hasP (gapsL to 0 l) (y.2 - 1) := ⟨y, hy, by omega, by omega⟩
    have := (h2 _).1 h3
    omega
  · rw [if_neg ht] at hy; simp at hy
theorem topL_in {l : List Sp} {n : Int} (hn : 0 ≤ n) (h : ∀ y ∈ l, 0 ≤ y.2 ∧ y.2 ≤ n) : 0 ≤ topL l ∧ topL l ≤ n := by
  by_cases hl : l = []
  · subst hl; exact ⟨Int.le_refl _, hn⟩
  · obtain ⟨y, hy, e⟩ := topL_mem hl
    rw [e]; exact h y hy
theorem missS_in {S : List PV} (ok : ∀ x ∈ S, x.Ok) (he : ∀ x ∈ S, x.e ≤ 4000) (sn : Int) : ∀ y ∈ missS S sn, 0 ≤ y.1 ∧ y.1 ≤ 4000 ∧ (y.2 = 0 ∨ (y.1 < y.2 ∧ y.2 ≤ 4000)) := by
  unfold missS
  cases h : findS S sn with
  | none => nofun
  | some x =>
    have hx := List.mem_of_find?_eq_some h
    have hok := ok x hx
    have hxe := he x hx
    have hdl := hok.dl
    have ht := topL_in (l := x.l) (n := 4000) (by decide) fun y hy => by
      have h1 := hok.inD y hy
      have h2 := Nrm.mem hok.so.n hy
      omega
    intro y hy
    dsimp only at hy
    unfold missL at hy
    by_cases h1 : x.e ≠ -1
    · rw [if_pos h1] at hy
      have := gapsV_in hok.so y hy; omega
    · rw [if_neg h1] at hy
      rcases List.mem_append.1 hy with hy | hy
      · have := gapsV_in hok.so y hy; omega
      · rw [List.mem_singleton.1 hy]; dsimp only; omega
theorem missOf_ok {w sn : Int} (hw : w = 10 ∨ w = 16) (hn : isNum w sn = true) {l : List Sp} (h : ∀ y ∈ l, 0 ≤ y.1 ∧ y.1 ≤ 4000 ∧ (y.2 = 0 ∨ (y.1 < y.2 ∧ y.2 ≤ 4000))) : ∀ m ∈ missOf l sn, missOk w m = true := by
  have hp : plcs w = 32768 ∨ plcs w = 65536 := by
    rcases hw with rfl | rfl
    · exact .inl plcs_10
    · exact .inr (plcs_no (by decide))
  intro m hm
  unfold missOf at hm
  split at hm
  · rw [List.mem_singleton.1 hm]
    unfold missOk; rw [hn]; simp
  · obtain ⟨y, hy, rfl⟩ := List.mem_map.1 hm
    have := h y hy
    unfold missOk
    rw [hn]
    simp only [Bool.true_and, if_true, decide_eq_true_eq]
    omega
end Go.Proofs.YtgbpjbpdpgbngaaGreat
/-
  The document's statuses: which may be, which are equal.
-/
namespace Go.Proofs.YtgbpjbpdpgbngaaGreat
open Go Go.Am

theorem refOffset (w : Int) (σ : AHeap) : ACalls Tryz.prog i_bowlineref11_offset [i64v w] σ fun v σ' => v = i64v (offWSt w) ∧ σ' = σ := by
  refine k_bowlineref11_offset rfl ?_
  (refine wX ?_)
  by_cases h : w = 10
  · (repeat ((refine abr_yes (by omega) ?_); (refine wX ?_)))
    exact aret_same ⟨by unfold offWSt; rw [if_pos h]; rfl, rfl⟩
  · (repeat ((refine abr_no (by omega) ?_); (refine wX ?_)))
    exact aret_same ⟨by unfold offWSt; rw [if_neg h]; rfl, rfl⟩
theorem refPlaces (w : Int) (σ : AHeap) : ACalls Tryz.prog i_bowlineref11_places [i64v w] σ fun v σ' => v = i64v (plcs w) ∧ σ' = σ := by
  refine k_bowlineref11_places rfl ?_
  (refine wX ?_)
  refine acall (refOffset w _) ?_
  rintro _ σ_ ⟨rfl, e_⟩
  obtain rfl := e_.symm
  refine ⟨?_, Ext.refl _⟩
  (refine wX ?_)
  have hoff := offW_le w
  (repeat ((refine afit_i64 (by omega) ?_); (refine wX ?_)))
  refine acall (refSize02 ((offWSt w : Int) - 1) _) ?_
  rintro _ σ_ ⟨rfl, e_⟩
  obtain rfl := e_.symm
  refine ⟨?_, Ext.refl _⟩
  (refine wX ?_)
  have h2 : spaceSize ((offWSt w : Int) - 1) * 2 = plcs w := by
    unfold plcs offWSt
    split <;> decide
  have h3 := spaceSize_le ((offWSt w : Int) - 1)
  refine afit_i64 (by omega) ?_
  rw [h2]
  (refine wX ?_)
  exact aret_same ⟨rfl, rfl⟩
set_option maxRecDepth 20000 in
theorem refIsMiss (m : Ms) (w : Int) (σ : AHeap) : ACalls Tryz.prog i_bowlineref11_IsMiss [msV m, i64v w] σ fun v σ' => v = boolv (missOk w m) ∧ σ' = σ := by
  obtain ⟨sn, part, fr, to⟩ := m
  refine k_bowlineref11_IsMiss rfl ?_
  (refine wX ?_)
  refine anew rfl fun i1 h1 => ?_
  have hs : Sub (upd σ i1 (.cells (msV (sn, part, fr, to)).cells)) σ := Sub.upd_fresh _ h1
  have k1 : upd σ i1 (.cells (msV (sn, part, fr, to)).cells) i1 = some (.cells [i64v sn, boolv part, i64v fr, i64v to]) := upd_same _ _ _
  generalize upd σ i1 (.cells (msV (sn, part, fr, to)).cells) = τ at *
  (refine wX ?_)
  refine aload k1 rfl ?_
  (refine wX ?_)
  refine acall (refIs02 w sn _) ?_
  rintro _ σ_ ⟨rfl, e_⟩
  obtain rfl := e_.symm
  refine ⟨?_, Ext.refl _⟩
  (refine wX ?_)
  cases hsn : isNum w sn
  · (refine wX ?_)
    exact aret (VLe.refl _) hs ⟨by unfold missOk; dsimp only; rw [hsn]; rfl, rfl⟩
  have hM : missOk w (sn, part, fr, to) = if part = true then decide (0 ≤ fr ∧ fr < plcs w ∧ (to = 0 ∨ fr < to ∧ to < plcs w)) else decide (fr = 0 ∧ to = 0) := by unfold missOk; dsimp only; rw [hsn]; rfl
  rw [hM]
  (refine wX ?_)
  refine aload k1 rfl ?_
  (refine wX ?_)
  cases part
  · rw [if_neg (by decide)]
    (refine wX ?_)
    refine aload k1 rfl ?_
    (refine wX ?_)
    by_cases c1 : fr = 0
    · (repeat ((first | refine aload (by (repeat (first | with_reducible exact upd_same _ _ _ | assumption | rw [upd_ne _ _ (by first | assumption | (apply Ne.symm; assumption))]))) rfl ?_ | refine abr_yes (by omega) ?_); (refine wX ?_)))
      exact aret (VLe.refl _) hs ⟨congrArg boolv (dec_congr (by omega)), rfl⟩
    · (repeat ((refine abr_no (by omega) ?_); (refine wX ?_)))
      exact aret (VLe.refl _) hs ⟨congrArg boolv (decide_eq_false (by omega)).symm, rfl⟩
  · rw [if_pos rfl]
    (refine wX ?_)
    refine aload k1 rfl ?_
    (refine wX ?_)
    by_cases c1 : fr < 0
    · (repeat ((refine abr_yes (by omega) ?_); (refine wX ?_)))
      exact aret (VLe.refl _) hs ⟨congrArg boolv (decide_eq_false (by omega)).symm, rfl⟩
    (repeat ((first | refine aload (by (repeat (first | with_reducible exact upd_same _ _ _ | assumption | rw [upd_ne _ _ (by first | assumption | (apply Ne.symm; assumption))]))) rfl ?_ | refine abr_no (by omega) ?_); (refine wX ?_)))
    refine acall (refPlaces w _) ?_
    rintro _ σ_ ⟨rfl, e_⟩
    obtain rfl := e_.symm
    refine ⟨?_, Ext.refl _⟩
    (refine wX ?_)
    by_cases c2 : fr ≥ plcs w
    · (repeat ((refine abr_yes (by omega) ?_); (refine wX ?_)))
      exact aret (VLe.refl _) hs ⟨congrArg boolv (decide_eq_false (by omega)).symm, rfl⟩
    (repeat ((first | refine aload (by (repeat (first | with_reducible exact upd_same _ _ _ | assumption | rw [upd_ne _ _ (by first | assumption | (apply Ne.symm; assumption))]))) rfl ?_ | refine abr_no (by omega) ?_); (refine wX ?_)))
    by_cases c3 : to = 0
    · (repeat ((refine abr_yes (by omega) ?_); (refine wX ?_)))
      exact aret (VLe.refl _) hs ⟨congrArg boolv (decide_eq_true (by omega)).symm, rfl⟩
    (repeat ((first | refine aload (by (repeat (first | with_reducible exact upd_same _ _ _ | assumption | rw [upd_ne _ _ (by first | assumption | (apply Ne.symm; assumption))]))) rfl ?_ | refine abr_no (by omega) ?_); (refine wX ?_)))
    by_cases c4 : to > fr
    · (repeat ((first | refine aload (by (repeat (first | with_reducible exact upd_same _ _ _ | assumption | rw [upd_ne _ _ (by first | assumption | (apply Ne.symm; assumption))]))) rfl ?_ | refine abr_yes (by omega) ?_); (refine wX ?_)))
      refine acall (refPlaces w _) ?_
      rintro _ σ_ ⟨rfl, e_⟩
      obtain rfl := e_.symm
      refine ⟨?_, Ext.refl _⟩
      (refine wX ?_)
      exact aret (VLe.refl _) hs ⟨congrArg boolv (dec_congr (by omega)), rfl⟩
    · (repeat ((refine abr_no (by omega) ?_); (refine wX ?_)))
      exact aret (VLe.refl _) hs ⟨congrArg boolv (decide_eq_false (by omega)).symm, rfl⟩
set_option maxRecDepth 20000 in
theorem refStRight (s : Int × List Ms) (t : Tok) (w : Int) (σ : AHeap) (hl : s.2.length ≤ 9223372036854775807) : ACalls Tryz.prog i_bowlineref11_Right [stV t s, i64v w] σ fun v σ' => v = boolv (stOk w s) ∧ σ' = σ := by
  obtain ⟨ack, l⟩ := s
  dsimp only at hl
  refine k_bowlineref11_Right rfl ?_
  (refine wX ?_)
  refine anew rfl fun i1 h1 => ?_
  have k1 : upd σ i1 (.cells (stV t (ack, l)).cells) i1 = some (.cells [i64v ack, missV t l]) := upd_same _ _ _
  have hs : Sub (upd σ i1 (.cells (stV t (ack, l)).cells)) σ := Sub.upd_fresh _ h1
  generalize upd σ i1 (.cells (stV t (ack, l)).cells) = τ at *
  (refine wX ?_)
  by_cases hw : w = 10 ∨ w = 16
  case neg =>
    have hno : stOk w (ack, l) = false := by unfold stOk; rw [show stWidth w = false from decide_eq_false hw]; rfl
    have c1 : ¬ w = 10 := fun e => hw (.inl e)
    have c2 : ¬ w = 16 := fun e => hw (.inr e)
    rw [hno]
    (repeat ((refine abr_yes (by omega) ?_); (refine wX ?_)))
    exact aret (VLe.refl _) hs ⟨rfl, rfl⟩
  have hsw : stWidth w = true := decide_eq_true hw
  apply via_loop (fun b Q => isNum w ack = true → l.length ≤ 32 → setsK (Env.full 9) [(s1, i64v w), (s2, .ptr i1 0), (s5, i64v 0)] fun e => ALoop Tryz.prog c75 b e τ Q)
  case f =>
    intro hK
    have hno (h : isNum w ack = false ∨ ¬ l.length ≤ 32) : stOk w (ack, l) = false := by
      unfold stOk; dsimp only
      rcases h with h | h
      · rw [h, Bool.and_false]; rfl
      · rw [decide_eq_false h, Bool.and_false]; rfl
    by_cases c1 : w = 10
    all_goals
      (repeat ((first | refine aload (by (repeat (first | with_reducible exact upd_same _ _ _ | assumption | rw [upd_ne _ _ (by first | assumption | (apply Ne.symm; assumption))]))) rfl ?_ | refine abr_yes (by omega) ?_ | refine abr_no (by omega) ?_); (refine wX ?_)))
      refine acall (refIs02 w ack _) ?_
      rintro _ σ_ ⟨rfl, e_⟩
      obtain rfl := e_.symm
      refine ⟨?_, Ext.refl _⟩
      (refine wX ?_)
      cases ha : isNum w ack
      · (refine wX ?_)
        exact aret (VLe.refl _) hs ⟨by rw [hno (.inl ha)], rfl⟩
      (refine wX ?_)
      refine aload k1 rfl ?_
      (refine wX ?_)
      rw [List.length_map]
      by_cases c3 : l.length > 32
      · (repeat ((refine abr_yes (by omega) ?_); (refine wX ?_)))
        exact aret (VLe.refl _) hs ⟨by rw [hno (.inr (by omega))], rfl⟩
      (repeat ((refine abr_no (by omega) ?_); (refine wX ?_)))
      refine aloop_from ?_ (hK () ha (by omega))
      exact elX
  case k =>
    intro ha h32
    have hS : stOk w (ack, l) = l.all (missOk w) := by unfold stOk; dsimp only; rw [hsw, ha, decide_eq_true h32]; rfl
    rw [hS]
    (conv => whnf)
    refine aloop (α := Nat) (fun i => [(s5, i64v i)]) (fun _ => τ) (fun i => i ≤ l.length ∧ (l.take i).all (missOk w) = true) (fun i => l.length - i) 0 ⟨Nat.zero_le _, rfl⟩ (Sub.refl _) ?_ ?_
    · (refine wX ?_)
      exact elX
    rintro i ⟨hi, hall⟩
    by_cases h : i < l.length
    · (refine wX ?_)
      (repeat ((first | refine aload (by (repeat (first | with_reducible exact upd_same _ _ _ | assumption | rw [upd_ne _ _ (by first | assumption | (apply Ne.symm; assumption))]))) rfl ?_ | refine abr_yes (by omega) ?_ | rw [List.length_map]); (refine wX ?_)))
      refine aget (by omega) (get_ms h) ?_
      (refine wX ?_)
      refine acells (l := (msV l[i]).cells) (by exact Nat.le_refl 4) rfl ?_
      (refine wX ?_)
      refine acall (refIsMiss l[i] w _) ?_
      rintro _ σ_ ⟨rfl, e_⟩
      obtain rfl := e_.symm
      refine ⟨?_, Ext.refl _⟩
      (refine wX ?_)
      cases hm : missOk w l[i]
      · (refine wX ?_)
        refine aret (VLe.refl _) hs ⟨?_, rfl⟩
        have : l.all (missOk w) = false := Bool.eq_false_iff.2 fun h2 => by rw [List.all_eq_true.1 h2 _ (List.getElem_mem h)] at hm; cases hm
        rw [this]
      · (refine wX ?_)
        (repeat ((refine afit_i64 (by omega) ?_); (refine wX ?_)))
        refine ⟨i + 1, ⟨h, ?_⟩, by omega, Sub.refl _, ?_⟩
        · rw [List.take_add_one, List.getElem?_eq_getElem h, List.all_append, hall]; simp [hm]
        · (refine wX ?_)
          exact elX
    · rw [List.take_of_length_le (by omega)] at hall
      (refine wX ?_)
      (repeat ((first | refine aload (by (repeat (first | with_reducible exact upd_same _ _ _ | assumption | rw [upd_ne _ _ (by first | assumption | (apply Ne.symm; assumption))]))) rfl ?_ | refine abr_no (by omega) ?_ | rw [List.length_map]); (refine wX ?_)))
      exact aret (VLe.refl _) hs ⟨by rw [hall], rfl⟩
end Go.Proofs.YtgbpjbpdpgbngaaGreat
/-
  Two rights to append, apart.
-/
namespace Go.Proofs.YtgbpjbpdpgbngaaGreat
open Go Go.Am

structure Tok2 (σ σb : AHeap) (a b : Tok) : Prop where
  fa : TokIn σ σb a
  fb : TokIn σ σb b
  ne : ∀ t, a = Tok.tip t → b ≠ Tok.tip t
theorem Tok2.symm {σ σb : AHeap} {a b : Tok} (h : Tok2 σ σb a b) : Tok2 σ σb b a := ⟨h.fb, h.fa, fun t e k => h.ne t k e⟩
theorem Tok2.ext {σ σ' σb : AHeap} {a b : Tok} (h : Tok2 σ σb a b) (k : ∀ t, σ t = some .tip → σ' t = some .tip) : Tok2 σ' σb a b := ⟨h.fa.ext k, h.fb.ext k, h.ne⟩
theorem Tok2.set {σ σb : AHeap} {a b : Tok} {id : Nat} {o : AObj} (x : AObj) (h : Tok2 σ σb a b) (k : σ id = some o) (ho : o.isTip = false) : Tok2 (upd σ id x) σb a b := ⟨h.fa.set x k ho, h.fb.set x k ho, h.ne⟩
theorem Tok2.full (σ σb : AHeap) : Tok2 σ σb .full .full := ⟨.full _ _, .full _ _, nofun⟩
theorem Tok2.fresh {σ σb : AHeap} {a b : Tok} {id : Nat} (x : AObj) (h : Tok2 σ σb a b) (k : σ id = none) : Tok2 (upd σ id x) σb a b :=
  h.ext fun t ht => by rw [upd_ne]; exact ht; intro e; subst e; rw [k] at ht; cases ht
end Go.Proofs.YtgbpjbpdpgbngaaGreat
/-
  Statuses that are equal; the document's form of one.
-/
namespace Go.Proofs.YtgbpjbpdpgbngaaGreat
open Go Go.Am

def msEq (a b : Ms) : Bool := decide (a.1 = b.1) && (a.2.1 == b.2.1 && (decide (a.2.2.1 = b.2.2.1) && (decide (a.2.2.2 = b.2.2.2) && true)))
theorem msEq_iff {a b : Ms} : msEq a b = true ↔ a = b := by
  obtain ⟨a1, a2, a3, a4⟩ := a
  obtain ⟨b1, b2, b3, b4⟩ := b
  simp [msEq]
theorem take_succ_eq {l m : List Ms} {i : Nat} (h : i < l.length) (h2 : i < m.length) (ht : l.take i = m.take i) : l.take (i + 1) = m.take (i + 1) ↔ l[i] = m[i] := by
  rw [show l.take (i + 1) = l.take i ++ [l[i]] from (List.take_append_getElem h).symm, show m.take (i + 1) = m.take i ++ [m[i]] from (List.take_append_getElem h2).symm, ht, List.append_cancel_left_eq]
  simp only [List.cons.injEq, and_true]

set_option maxRecDepth 20000 in
theorem refSame (a b : Int × List Ms) (t u : Tok) (σ : AHeap) (hl : a.2.length ≤ 9223372036854775807) : ACalls Tryz.prog i_bowlineref11_Same [stV t a, stV u b] σ fun v σ' => v = boolv (decide (a = b)) ∧ σ' = σ := by
  obtain ⟨x, l⟩ := a
  obtain ⟨y, m⟩ := b
  dsimp only at hl
  refine k_bowlineref11_Same rfl ?_
  (refine wX ?_)
  refine anew rfl fun i1 h1 => ?_
  (refine wX ?_)
  refine anew rfl fun i2 h2 => ?_
  have n12 : i1 ≠ i2 := fun e => by subst e; rw [upd_same] at h2; cases h2
  have b2 : σ i2 = none := sub_none (Sub.upd_fresh _ h1) h2
  have hs : Sub (upd (upd σ i1 (.cells (stV t (x, l)).cells)) i2 (.cells (stV u (y, m)).cells)) σ := sub_upd _ (Sub.upd_fresh _ h1) b2
  have k1 : upd (upd σ i1 (.cells (stV t (x, l)).cells)) i2 (.cells (stV u (y, m)).cells) i1 = some (.cells [i64v x, missV t l]) := by rw [upd_ne _ _ n12]; exact upd_same _ _ _
  have k2 : upd (upd σ i1 (.cells (stV t (x, l)).cells)) i2 (.cells (stV u (y, m)).cells) i2 = some (.cells [i64v y, missV u m]) := upd_same _ _ _
  generalize upd (upd σ i1 (.cells (stV t (x, l)).cells)) i2 (.cells (stV u (y, m)).cells) = τ at *
  (refine wX ?_)
  refine aload k1 rfl ?_
  (refine wX ?_)
  refine aload k2 rfl ?_
  (refine wX ?_)
  by_cases e : x = y
  case neg =>
    (repeat ((refine abr_yes (by omega) ?_); (refine wX ?_)))
    exact aret (VLe.refl _) hs ⟨congrArg boolv (decide_eq_false fun h => e (congrArg Prod.fst h)).symm, rfl⟩
  have hdec : decide ((x, l) = (y, m)) = decide (l = m) := dec_congr (by rw [Prod.mk.injEq]; exact ⟨fun h => h.2, fun h => ⟨e, h⟩⟩)
  rw [hdec]
  (repeat ((first | refine aload (by (repeat (first | with_reducible exact upd_same _ _ _ | assumption | rw [upd_ne _ _ (by first | assumption | (apply Ne.symm; assumption))]))) rfl ?_ | refine abr_no (by omega) ?_ | rw [List.length_map]); (refine wX ?_)))
  by_cases hlm : l.length = m.length
  case neg =>
    (repeat ((refine abr_yes (by omega) ?_); (refine wX ?_)))
    exact aret (VLe.refl _) hs ⟨congrArg boolv (decide_eq_false fun e => hlm (by rw [e])).symm, rfl⟩
  (repeat ((refine abr_no (by omega) ?_); (refine wX ?_)))
  refine aloop (α := Nat) (fun i => [(s5, i64v i)]) (fun _ => τ) (fun i => i ≤ l.length ∧ l.take i = m.take i) (fun i => l.length - i) 0 ⟨Nat.zero_le _, rfl⟩ (Sub.refl _) ?_ ?_
  · (refine wX ?_)
    exact elX
  rintro i ⟨hi, ht⟩
  by_cases h : i < l.length
  · have h2 : i < m.length := by omega
    have hte := take_succ_eq h h2 ht
    (refine wX ?_)
    (repeat ((first | refine aload (by (repeat (first | with_reducible exact upd_same _ _ _ | assumption | rw [upd_ne _ _ (by first | assumption | (apply Ne.symm; assumption))]))) rfl ?_ | refine abr_yes (by omega) ?_ | rw [List.length_map]); (refine wX ?_)))
    refine aget (by omega) (get_ms h) ?_
    (refine wX ?_)
    refine acells (l := (msV l[i]).cells) (by exact Nat.le_refl 4) rfl ?_
    (refine wX ?_)
    refine aload k2 rfl ?_
    (refine wX ?_)
    refine aget (by omega) (get_ms h2) ?_
    (refine wX ?_)
    refine acells (l := (msV m[i]).cells) (by exact Nat.le_refl 4) rfl ?_
    (refine wX ?_)
    by_cases e : l[i] = m[i]
    · have hq : msEq l[i] m[i] = true := msEq_iff.2 e
      refine abr_false (show (msEq l[i] m[i] != true) = false by rw [hq]; rfl) ?_
      (refine wX ?_)
      (repeat ((refine afit_i64 (by omega) ?_); (refine wX ?_)))
      refine ⟨i + 1, ⟨h, hte.2 e⟩, by omega, Sub.refl _, ?_⟩
      (refine wX ?_)
      exact elX
    · have hq : msEq l[i] m[i] = false := Bool.eq_false_iff.2 fun h => e (msEq_iff.1 h)
      refine abr_true (show (msEq l[i] m[i] != true) = true by rw [hq]; rfl) ?_
      (refine wX ?_)
      exact aret (VLe.refl _) hs ⟨congrArg boolv (decide_eq_false fun e2 => e (hte.1 (by rw [e2]))).symm, rfl⟩
  · rw [List.take_of_length_le (by omega), List.take_of_length_le (by omega)] at ht
    (refine wX ?_)
    (repeat ((first | refine aload (by (repeat (first | with_reducible exact upd_same _ _ _ | assumption | rw [upd_ne _ _ (by first | assumption | (apply Ne.symm; assumption))]))) rfl ?_ | refine abr_no (by omega) ?_ | rw [List.length_map]); (refine wX ?_)))
    exact aret (VLe.refl _) hs ⟨congrArg boolv (decide_eq_true ht).symm, rfl⟩
end Go.Proofs.YtgbpjbpdpgbngaaGreat
/-
  The document's form of a status.
-/
namespace Go.Proofs.YtgbpjbpdpgbngaaGreat
open Go Go.Am

theorem vle_st {x : Int} {l : List Ms} {t : Tok} : VLe (stV t (x, l)) (stV .none (x, l)) := fun κ v k => by
  cases k with
  | agg k => exact .agg (VLe.cons (VLe.refl _) (VLe.cons (VLe.slice _ _ _) fun _ _ h => h) _ _ k)
set_option maxRecDepth 20000 in
theorem tAs (s : Int × List Ms) (t : Tok) (σ : AHeap) (hl : s.2.length * 32 ≤ 140737488351232) : ACalls Tryz.prog i_bowlinelaw11_As [stV t s] σ fun v σ' => v = stV .none s ∧ σ' = σ := by
  obtain ⟨x, l⟩ := s
  dsimp only at hl
  refine k_bowlinelaw11_As rfl ?_
  (refine wX ?_)
  refine anew rfl fun i1 h1 => ?_
  (refine wX ?_)
  refine anew rfl fun i2 h2 => ?_
  have n12 : i1 ≠ i2 := fun e => by subst e; rw [upd_same] at h2; cases h2
  have b2 : σ i2 = none := sub_none (Sub.upd_fresh _ h1) h2
  have hs : Sub (upd (upd σ i1 (.cells (stV t (x, l)).cells)) i2 (.cells [i64v 0, .slice 4 [] .full])) σ := sub_upd _ (Sub.upd_fresh _ h1) b2
  have k1 : upd (upd σ i1 (.cells (stV t (x, l)).cells)) i2 (.cells [i64v 0, .slice 4 [] .full]) i1 = some (.cells [i64v x, missV t l]) := by rw [upd_ne _ _ n12]; exact upd_same _ _ _
  have k2 : upd (upd σ i1 (.cells (stV t (x, l)).cells)) i2 (.cells [i64v 0, .slice 4 [] .full]) i2 = some (.cells [i64v 0, .slice 4 [] .full]) := upd_same _ _ _
  generalize upd (upd σ i1 (.cells (stV t (x, l)).cells)) i2 (.cells [i64v 0, .slice 4 [] .full]) = τ at *
  (refine wX ?_)
  refine aload k1 rfl ?_
  (refine wX ?_)
  refine anew rfl fun i3 h3 => ?_
  have n13 : i1 ≠ i3 := fun e => by subst e; rw [k1] at h3; cases h3
  have n23 : i2 ≠ i3 := fun e => by subst e; rw [k2] at h3; cases h3
  (refine wX ?_)
  refine astore (xs := [i64v x, .slice 4 [] .full]) (l := [i64v x, .slice 4 [] .full]) (upd_same _ _ _) (by exact Nat.le_refl 2) rfl rfl ?_
  rw [upd_upd]
  have b3 : σ i3 = none := sub_none hs h3
  have k1 : upd τ i3 (.cells [i64v x, .slice 4 [] .full]) i1 = some (.cells [i64v x, missV t l]) := (upd_ne _ _ n13).trans k1
  have k2 : upd τ i3 (.cells [i64v x, .slice 4 [] .full]) i2 = some (.cells [i64v 0, .slice 4 [] .full]) := (upd_ne _ _ n23).trans k2
  have k3 : upd τ i3 (.cells [i64v x, .slice 4 [] .full]) i3 = some (.cells [i64v x, missV .full []]) := upd_same _ _ _
  have hs : Sub (upd τ i3 (.cells [i64v x, .slice 4 [] .full])) σ := sub_upd _ hs b3
  generalize upd τ i3 (.cells [i64v x, .slice 4 [] .full]) = υ at *
  (refine wX ?_)
  refine aloop (α := Nat × Tok × AHeap) (fun z => [(s4, i64v z.1)]) (fun z => z.2.2) (fun z => z.1 ≤ l.length ∧ z.2.2 i1 = some (.cells [i64v x, missV t l]) ∧ z.2.2 i2 = some (.cells [i64v 0, .slice 4 [] .full]) ∧ z.2.2 i3 = some (.cells [i64v x, missV z.2.1 (l.take z.1)]) ∧ TokIn z.2.2 σ z.2.1 ∧ Sub z.2.2 σ) (fun z => l.length - z.1) (0, .full, υ) ⟨Nat.zero_le _, k1, k2, k3, .full _ _, hs⟩ (Sub.refl _) ?_ ?_
  · (refine wX ?_)
    exact elX
  rintro ⟨i, tk, υ2⟩ ⟨hi, q1, q2, q3, hto, hs2⟩
  dsimp only at hi q1 q2 q3 hto hs2 ⊢
  by_cases h : i < l.length
  · (refine wX ?_)
    (repeat ((first | refine aload (by (repeat (first | with_reducible exact upd_same _ _ _ | assumption | rw [upd_ne _ _ (by first | assumption | (apply Ne.symm; assumption))]))) rfl ?_ | refine abr_yes (by omega) ?_ | rw [List.length_map]); (refine wX ?_)))
    refine aget (by omega) (get_ms h) ?_
    (refine wX ?_)
    refine acells (l := (msV l[i]).cells) (by exact Nat.le_refl 4) rfl ?_
    (refine wX ?_)
    refine anew rfl fun i5 h5 => ?_
    (refine wX ?_)
    refine astore (xs := (msV l[i]).cells) (l := [i64v l[i].1, boolv l[i].2.1, i64v l[i].2.2.1, i64v l[i].2.2.2]) (upd_same _ _ _) (by exact Nat.le_refl 4) rfl rfl ?_
    rw [upd_upd]
    have n15 : i1 ≠ i5 := fun e => by subst e; rw [q1] at h5; cases h5
    have n25 : i2 ≠ i5 := fun e => by subst e; rw [q2] at h5; cases h5
    have n35 : i3 ≠ i5 := fun e => by subst e; rw [q3] at h5; cases h5
    have m1 : upd υ2 i5 (.cells [i64v l[i].1, boolv l[i].2.1, i64v l[i].2.2.1, i64v l[i].2.2.2]) i1 = some (.cells [i64v x, missV t l]) := (upd_ne _ _ n15).trans q1
    have m2 : upd υ2 i5 (.cells [i64v l[i].1, boolv l[i].2.1, i64v l[i].2.2.1, i64v l[i].2.2.2]) i2 = some (.cells [i64v 0, .slice 4 [] .full]) := (upd_ne _ _ n25).trans q2
    have m3 : upd υ2 i5 (.cells [i64v l[i].1, boolv l[i].2.1, i64v l[i].2.2.1, i64v l[i].2.2.2]) i3 = some (.cells [i64v x, missV tk (l.take i)]) := (upd_ne _ _ n35).trans q3
    have m5 : upd υ2 i5 (.cells [i64v l[i].1, boolv l[i].2.1, i64v l[i].2.2.1, i64v l[i].2.2.2]) i5 = some (.cells [i64v l[i].1, boolv l[i].2.1, i64v l[i].2.2.1, i64v l[i].2.2.2]) := upd_same _ _ _
    have hs5 : Sub (upd υ2 i5 (.cells [i64v l[i].1, boolv l[i].2.1, i64v l[i].2.2.1, i64v l[i].2.2.2])) σ := sub_upd _ hs2 (sub_none hs2 h5)
    have hto5 : TokIn (upd υ2 i5 (.cells [i64v l[i].1, boolv l[i].2.1, i64v l[i].2.2.1, i64v l[i].2.2.2])) σ tk := by
      rcases hto with rfl | ⟨u, rfl, h1, h2⟩
      · exact .inl rfl
      · exact .inr ⟨u, rfl, by rw [upd_ne _ _ (fun e => by subst e; rw [h1] at h5; cases h5)]; exact h1, h2⟩
    generalize upd υ2 i5 (.cells [i64v l[i].1, boolv l[i].2.1, i64v l[i].2.2.1, i64v l[i].2.2.2]) = υ3 at *
    (refine wX ?_)
    (repeat ((refine aload (by (repeat (first | with_reducible exact upd_same _ _ _ | assumption | rw [upd_ne _ _ (by first | assumption | (apply Ne.symm; assumption))]))) rfl ?_); (refine wX ?_)))
    refine aapp_in (ys := [msV l[i]]) hto5 hs5 (by rw [List.length_map, List.length_take]; show (_ + 1) * 32 ≤ _; omega) fun t5 σ5 hx5 hs6 hto6 => ?_
    have p1 := hx5 i1 _ rfl m1
    have p2 := hx5 i2 _ rfl m2
    have p3 := hx5 i3 _ rfl m3
    rw [show (l.take i).map msV ++ [msV l[i]] = (l.take (i + 1)).map msV by rw [show l.take (i + 1) = l.take i ++ [l[i]] from (List.take_append_getElem h).symm, List.map_append]; rfl]
    (refine wX ?_)
    refine astore (xs := [missV (.tip t5) (l.take (i + 1))]) (l := [i64v x, missV (.tip t5) (l.take (i + 1))]) p3 (by exact Nat.le_refl 2) rfl rfl ?_
    have hn3 : i3 ≠ t5 := hto6.ne_of p3 rfl t5 rfl
    (refine wX ?_)
    (repeat ((refine afit_i64 (by omega) ?_); (refine wX ?_)))
    refine ⟨(i + 1, .tip t5, upd σ5 i3 (.cells [i64v x, missV (.tip t5) (l.take (i + 1))])), ⟨h, (upd_ne _ _ n13).trans p1, (upd_ne _ _ n23).trans p2, upd_same _ _ _, hto6.ne _ (fun u e => by cases e; exact hn3), sub_upd _ hs6 b3⟩, by dsimp only; omega, Sub.refl _, ?_⟩
    (refine wX ?_)
    exact elX
  · obtain rfl : i = l.length := by omega
    rw [List.take_length] at q3
    (refine wX ?_)
    (repeat ((first | refine aload (by (repeat (first | with_reducible exact upd_same _ _ _ | assumption | rw [upd_ne _ _ (by first | assumption | (apply Ne.symm; assumption))]))) rfl ?_ | refine abr_no (by omega) ?_ | rw [List.length_map]); (refine wX ?_)))
    refine aloads (l := [i64v x, missV tk l]) q3 (by exact Nat.le_refl 2) rfl ?_
    (refine wX ?_)
    refine astore (xs := [i64v x, missV tk l]) (l := [i64v x, missV tk l]) q2 (by exact Nat.le_refl 2) rfl rfl ?_
    (refine wX ?_)
    refine aloads (l := [i64v x, missV tk l]) (upd_same _ _ _) (by exact Nat.le_refl 2) rfl ?_
    (refine wX ?_)
    exact aret vle_st (sub_upd _ hs2 b2) ⟨rfl, rfl⟩
end Go.Proofs.YtgbpjbpdpgbngaaGreat
/-
  Numbers that skip round: how far, and on.
-/
namespace Go.Proofs.YtgbpjbpdpgbngaaGreat
open Go Go.Am

theorem and_mask_int (x : Int) (k : Nat) (hk : k ≤ 61) : bitsOp .and .i64 x ((2 ^ k : Nat) - 1 : Int) = x % ((2 ^ k : Nat) : Int) := by
  have h62 : 2 ^ k ≤ 2 ^ 61 := Nat.pow_le_pow_right (by omega) hk
  have p61 : (2 : Nat) ^ 61 = 2305843009213693952 := by decide
  have hpos : 0 < 2 ^ k := Nat.two_pow_pos k
  have e0 : (((2 ^ k : Nat) : Int) - 1) = ((2 ^ k - 1 : Nat) : Int) := by omega
  have h2 : BitVec.ofInt 64 (((2 ^ k : Nat) : Int) - 1) = BitVec.ofNat 64 (2 ^ k - 1) := by rw [e0]; exact BitVec.ofInt_natCast _ _
  show IntKind.i64.wrap ((BitVec.ofInt 64 x &&& BitVec.ofInt 64 _).toNat) = _
  rw [h2]
  have : (BitVec.ofInt 64 x &&& BitVec.ofNat 64 (2 ^ k - 1)).toNat = (x % 18446744073709551616).toNat % 2 ^ k := by
    rw [BitVec.toNat_and, BitVec.toNat_ofNat, BitVec.toNat_ofInt, Nat.mod_eq_of_lt (show 2 ^ k - 1 < 2 ^ 64 from Nat.lt_of_le_of_lt (Nat.sub_le _ _) (Nat.lt_of_le_of_lt h62 (by decide)))]
    exact Nat.and_two_pow_sub_one_eq_mod _ k
  rw [this]
  have hd : ((2 ^ k : Nat) : Int) ∣ 18446744073709551616 := by
    have : (2 ^ k) ∣ 2 ^ 64 := Nat.pow_dvd_pow 2 (by omega)
    have := Int.natCast_dvd_natCast.2 this
    exact this
  have e1 : (((x % 18446744073709551616).toNat % 2 ^ k : Nat) : Int) = x % ((2 ^ k : Nat) : Int) := by
    rw [Int.natCast_emod, Int.toNat_of_nonneg (Int.emod_nonneg _ (by decide)), Int.emod_emod_of_dvd _ hd]
  rw [e1]
  have h1 := Int.emod_nonneg x (show ((2 ^ k : Nat) : Int) ≠ 0 by omega)
  have h3 := Int.emod_lt_of_pos x (show 0 < ((2 ^ k : Nat) : Int) by omega)
  exact wrap_i64 (by omega) (by omega)
theorem spaceSize_pow {w : Int} (h : spaceOk w) : spaceSize w = ((2 ^ w.toNat : Nat) : Int) := by unfold spaceSize; rw [if_pos h]
theorem and_space {w : Int} (h : spaceOk w) (x : Int) : bitsOp .and .i64 x (spaceSize w - 1) = x % spaceSize w := by
  rw [spaceSize_pow h]; exact and_mask_int x _ (by unfold spaceOk at h; omega)
theorem space_div {w : Int} (h : spaceOk w) : spaceSize w ∣ 65536 := by
  rw [spaceSize_pow h]
  have : (2 ^ w.toNat) ∣ 2 ^ 16 := Nat.pow_dvd_pow 2 (by unfold spaceOk at h; omega)
  exact Int.natCast_dvd_natCast.2 this
theorem space_pos {w : Int} (h : spaceOk w) : 2 ≤ spaceSize w := by
  rw [spaceSize_pow h]
  have : 2 ^ 1 ≤ 2 ^ w.toNat := Nat.pow_le_pow_right (by omega) (by unfold spaceOk at h; omega)
  omega
def askCode (w : Int) (l : List Int) : Int := if spaceOk w then (if l.all (isNum w) = true then 0 else 1) else 3
set_option maxRecDepth 10000 in
theorem sqAsk (w : Int) (l : List Int) (t : Tok) (σ : AHeap) (hl : l.length ≤ 1000000) : ACalls Tryz.prog i_seqnum_Space_ask [.agg [i64v w], ints t l] σ fun v σ' => v = i64v (askCode w l) ∧ σ' = σ := by
  refine k_seqnum_Space_ask rfl ?_
  have H := Hp.nil σ
  (refine wX ?_)
  refine hnew H rfl ?_
  clear H
  intro i2 τ H
  (refine wX ?_)
  refine ascope' (α := Nat) (fun i => [(s5, i64v i)]) (fun _ => τ) (fun _ => 0) (fun i => spaceOk w ∧ i ≤ l.length ∧ ∀ j (h : j < l.length), j < i → isNum w l[j] = true) (fun i => l.length - i) ?_ ?_
  · (refine wX ?_)
    intro hlab
    (refine wX ?_)
    (repeat (((apply zA H; (· repeat first | exact .h | apply AtK.t))); (refine wX ?_)))
    refine acall (sqRight w τ) ?_
    rintro _ σ_ ⟨rfl, e_⟩
    obtain rfl := e_.symm
    refine ⟨?_, Ext.refl _⟩
    (refine wX ?_)
    by_cases h : spaceOk w
    · refine abr_false (by rw [decide_eq_true h]; rfl) ?_
      (refine wX ?_)
      refine hlab _ (fun _ _ _ h => h) _ _ _ _ ⟨0, rfl, ⟨h, Nat.zero_le _, fun j _ h => by omega⟩, rfl, Sub.refl _, ?_⟩
      (refine wX ?_)
      exact elX
    · refine abr_true (by rw [decide_eq_false h]; rfl) ?_
      (refine wX ?_)
      exact aret (VLe.refl _) H.sub ⟨by unfold askCode; rw [if_neg h], rfl⟩
  · rintro i ⟨hw, hi, hz⟩
    refine ⟨_, rfl, ?_⟩
    (refine wX ?_)
    intro hlab
    (refine wX ?_)
    rw [List.length_map]
    by_cases h : i < l.length
    · (repeat ((first | refine zY (by omega) ?_ | (apply zA H; (· repeat first | exact .h | apply AtK.t))); (refine wX ?_)))
      refine aget (by omega) (get_ints h) ?_
      (refine wX ?_)
      (repeat ((refine zR rfl ?_); (refine wX ?_)))
      refine acall (sqIs w l[i] τ) ?_
      rintro _ σ_ ⟨rfl, e_⟩
      obtain rfl := e_.symm
      refine ⟨?_, Ext.refl _⟩
      (refine wX ?_)
      cases hn : isNum w l[i]
      · (refine wX ?_)
        refine aret (VLe.refl _) H.sub ⟨?_, rfl⟩
        unfold askCode
        rw [if_pos hw, if_neg]
        intro ha
        rw [List.all_eq_true.1 ha l[i] (List.getElem_mem h)] at hn; cases hn
      · (refine wX ?_)
        (repeat ((refine zI (by omega) ?_); (refine wX ?_)))
        refine ⟨i + 1, rfl, ⟨hw, h, fun j h1 h2 => ?_⟩, by omega, Sub.refl _, ?_⟩
        · by_cases e : j = i
          · subst e; exact hn
          · exact hz j h1 (by omega)
        · (refine wX ?_)
          exact elX
    · (repeat ((refine zN (by omega) ?_); (refine wX ?_)))
      refine aret (VLe.refl _) H.sub ⟨?_, rfl⟩
      unfold askCode
      rw [if_pos hw, if_pos]
      refine List.all_eq_true.2 fun x hx => ?_
      obtain ⟨j, hj, rfl⟩ := List.mem_iff_getElem.1 hx
      exact hz j hj (by omega)
def farV (w a b : Int) : Int := if spaceOk w ∧ isNum w a = true ∧ isNum w b = true then (b - a) % spaceSize w else 0
def farC (w a b : Int) : Int := askCode w [a, b]
theorem askCode_zero {w : Int} {l : List Int} : askCode w l = 0 ↔ spaceOk w ∧ ∀ x ∈ l, isNum w x = true := by
  unfold askCode
  by_cases h : spaceOk w
  · rw [if_pos h]
    by_cases h2 : l.all (isNum w) = true
    · rw [if_pos h2]; exact ⟨fun _ => ⟨h, List.all_eq_true.1 h2⟩, fun _ => rfl⟩
    · rw [if_neg h2]; exact ⟨fun e => (by cases e), fun e => (h2 (List.all_eq_true.2 e.2)).elim⟩
  · rw [if_neg h]; exact ⟨fun e => (by cases e), fun e => (h e.1).elim⟩
theorem isNum_bound {w n : Int} (h : isNum w n = true) : 0 ≤ n ∧ n < spaceSize w ∧ n < 65536 := by
  have h := of_decide_eq_true h
  have := spaceSize_le w
  omega
theorem sqFar (w a b : Int) (σ : AHeap) : ACalls Tryz.prog i_seqnum_Space_Far [.agg [i64v w], i64v a, i64v b] σ fun v σ' => v = .tup [i64v (farV w a b), i64v (farC w a b)] ∧ σ' = σ := by
  refine k_seqnum_Space_Far rfl ?_
  have H := Hp.nil σ
  (refine wX ?_)
  refine hnew H rfl ?_
  clear H
  intro i3 τ H
  (refine wX ?_)
  (repeat (((apply zA H; (· repeat first | exact .h | apply AtK.t))); (refine wX ?_)))
  refine acall (sqAsk w [a, b] .full τ (by simp)) ?_
  rintro _ σ_ ⟨rfl, e_⟩
  obtain rfl := e_.symm
  refine ⟨?_, Ext.refl _⟩
  (refine wX ?_)
  unfold farC
  by_cases h : askCode w [a, b] = 0
  · obtain ⟨hw, hn⟩ := askCode_zero.1 h
    have ha := hn a (by simp)
    have hb := hn b (by simp)
    have h1 := isNum_bound ha
    have h2 := isNum_bound hb
    have h3 := space_pos hw
    have h4 := spaceSize_le w
    rw [h]
    (refine wX ?_)
    (repeat ((first | refine zI (by omega) ?_ | (apply zA H; (· repeat first | exact .h | apply AtK.t))); (refine wX ?_)))
    refine acall (sqSize w τ) ?_
    rintro _ σ_ ⟨rfl, e_⟩
    obtain rfl := e_.symm
    refine ⟨?_, Ext.refl _⟩
    (refine wX ?_)
    (repeat ((refine zI (by omega) ?_); (refine wX ?_)))
    refine abits_eq (and_space hw _) ?_
    (refine wX ?_)
    exact aret (VLe.refl _) H.sub ⟨by unfold farV; rw [if_pos ⟨hw, ha, hb⟩], rfl⟩
  · refine abr_yes h ?_
    (refine wX ?_)
    exact aret (VLe.refl _) H.sub ⟨by unfold farV; rw [if_neg (fun e => h (askCode_zero.2 ⟨e.1, by simp [e.2]⟩))], rfl⟩
def goV (w n by' : Int) : Int := if askCode w [n] = 0 ∧ -65536 ≤ by' ∧ by' ≤ 65536 then (n + by') % spaceSize w else 0
def goC (w n by' : Int) : Int := if askCode w [n] = 0 then (if -65536 ≤ by' ∧ by' ≤ 65536 then 0 else 1) else askCode w [n]
theorem sqGo (w n d : Int) (σ : AHeap) : ACalls Tryz.prog i_seqnum_Space_Go [.agg [i64v w], i64v n, i64v d] σ fun v σ' => v = .tup [i64v (goV w n d), i64v (goC w n d)] ∧ σ' = σ := by
  refine k_seqnum_Space_Go rfl ?_
  have H := Hp.nil σ
  (refine wX ?_)
  refine hnew H rfl ?_
  clear H
  intro i3 τ H
  (refine wX ?_)
  (repeat (((apply zA H; (· repeat first | exact .h | apply AtK.t))); (refine wX ?_)))
  refine acall (sqAsk w [n] .full τ (by simp)) ?_
  rintro _ σ_ ⟨rfl, e_⟩
  obtain rfl := e_.symm
  refine ⟨?_, Ext.refl _⟩
  (refine wX ?_)
  by_cases h : askCode w [n] = 0
  · obtain ⟨hw, hn⟩ := askCode_zero.1 h
    have ha := hn n (by simp)
    have h1 := isNum_bound ha
    have h3 := space_pos hw
    have h4 := spaceSize_le w
    rw [h]
    (refine wX ?_)
    by_cases c1 : d < -65536
    · (repeat ((refine zY (by omega) ?_); (refine wX ?_)))
      exact aret (VLe.refl _) H.sub ⟨by unfold goV goC; rw [if_neg (by omega), if_pos h, if_neg (by omega)], rfl⟩
    by_cases c2 : d > 65536
    · (repeat ((first | refine zY (by omega) ?_ | refine zN (by omega) ?_); (refine wX ?_)))
      exact aret (VLe.refl _) H.sub ⟨by unfold goV goC; rw [if_neg (by omega), if_pos h, if_neg (by omega)], rfl⟩
    (repeat ((first | refine zI (by omega) ?_ | refine zN (by omega) ?_ | (apply zA H; (· repeat first | exact .h | apply AtK.t))); (refine wX ?_)))
    refine acall (sqSize w τ) ?_
    rintro _ σ_ ⟨rfl, e_⟩
    obtain rfl := e_.symm
    refine ⟨?_, Ext.refl _⟩
    (refine wX ?_)
    (repeat ((refine zI (by omega) ?_); (refine wX ?_)))
    refine abits_eq (and_space hw _) ?_
    (refine wX ?_)
    refine aret (VLe.refl _) H.sub ⟨?_, rfl⟩
    unfold goV goC
    rw [if_pos ⟨h, by omega, by omega⟩, if_pos h, if_pos ⟨by omega, by omega⟩]
    obtain ⟨q, hq⟩ := space_div hw
    rw [show n + d + 65536 = n + d + spaceSize w * q by omega, Int.add_mul_emod_self_left]
  · refine abr_yes h ?_
    (refine wX ?_)
    exact aret (VLe.refl _) H.sub ⟨by unfold goV goC; rw [if_neg (fun e => h e.1), if_neg h], rfl⟩
end Go.Proofs.YtgbpjbpdpgbngaaGreat
/-
  A window of what comes: its numbers, counted on, and what is whole.
-/
namespace Go.Proofs.YtgbpjbpdpgbngaaGreat
open Go Go.Am

structure RxA where
  R : Nat
  MS : Nat
  H : Nat
  D : List Nat
/-- What a window's bits and size are. -/
structure RxP (n N size : Nat) : Prop where
  ok : spaceOk n
  sz : spaceSize n = (N : Int)
  s1 : 1 ≤ size
  s2 : 2 * size ≤ N
theorem RxP.le {n N size : Nat} (p : RxP n N size) : N ≤ 65536 := by
  have := spaceSize_le n; have := p.sz; omega
structure RxOk (N size : Nat) (A : RxA) : Prop where
  rm : A.R ≤ A.MS
  mh : A.MS ≤ A.H
  hr : A.H ≤ A.R + size
  dR : ∀ i ∈ A.D, A.R < i ∧ i < A.H
  nd : A.D.Nodup
def keysV (N : Nat) (D : List Nat) : List (Int × AVal) := D.map fun i => (((i % N : Nat) : Int), boolv true)
/-- The place, counted on, of a number. -/
def posN (N R : Nat) (k : Int) : Nat := R + ((k - ((R % N : Nat) : Int)) % (N : Int)).toNat
def numOk (N : Nat) (k : Int) : Bool := decide (0 ≤ k ∧ k < N)
theorem isNum_numOk {n N size : Nat} (p : RxP n N size) (k : Int) : isNum n k = numOk N k := by unfold isNum numOk; rw [p.sz]
theorem posN_bound {N R : Nat} (k : Int) (hN : 0 < N) : R ≤ posN N R k ∧ posN N R k < R + N := by
  unfold posN
  have h1 := Int.emod_nonneg (k - ((R % N : Nat) : Int)) (show (N : Int) ≠ 0 by omega)
  have h2 := Int.emod_lt_of_pos (k - ((R % N : Nat) : Int)) (show 0 < (N : Int) by omega)
  omega
theorem posN_mod {N R : Nat} {k : Int} (hN : 0 < N) (hk : numOk N k = true) : ((posN N R k % N : Nat) : Int) = k := by
  have hk := of_decide_eq_true hk
  unfold posN
  have h1 := Int.emod_nonneg (k - ((R % N : Nat) : Int)) (show (N : Int) ≠ 0 by omega)
  rw [Int.natCast_emod, Int.natCast_add, Int.toNat_of_nonneg h1, Int.natCast_emod, Int.add_emod, Int.emod_emod_of_dvd _ (Int.dvd_refl _), ← Int.add_emod, Int.add_comm]
  rw [show k - (R : Int) % (N : Int) + (R : Int) = k + (N : Int) * ((R : Int) / (N : Int)) by have := Int.emod_add_mul_ediv (R : Int) N; omega, Int.add_mul_emod_self_left]
  exact Int.emod_eq_of_lt hk.1 hk.2
theorem mod_inj {N R i j : Nat} (hi : R ≤ i ∧ i < R + N) (hj : R ≤ j ∧ j < R + N) (h : i % N = j % N) : i = j := by
  have h1 := Nat.div_add_mod i N
  have h2 := Nat.div_add_mod j N
  have h3 : i / N = j / N := by
    rcases Nat.lt_trichotomy (i / N) (j / N) with h | h | h
    · have : N * (i / N) + N ≤ N * (j / N) := by rw [← Nat.mul_succ]; exact Nat.mul_le_mul_left _ h
      omega
    · exact h
    · have : N * (j / N) + N ≤ N * (i / N) := by rw [← Nat.mul_succ]; exact Nat.mul_le_mul_left _ h
      omega
  rw [h3] at h1; omega
theorem posN_eq {N R i : Nat} (hi : R ≤ i ∧ i < R + N) : posN N R ((i % N : Nat) : Int) = i := by
  have hN : 0 < N := by omega
  refine mod_inj (posN_bound _ hN) hi ?_
  have hk : numOk N ((i % N : Nat) : Int) = true := decide_eq_true ⟨Int.natCast_nonneg _, Int.ofNat_lt.2 (Nat.mod_lt _ hN)⟩
  have := posN_mod (R := R) hN hk
  omega
theorem numOk_mod {N : Nat} (i : Nat) (hN : 0 < N) : numOk N ((i % N : Nat) : Int) = true := decide_eq_true ⟨Int.natCast_nonneg _, Int.ofNat_lt.2 (Nat.mod_lt _ hN)⟩
theorem keys_look {N R i : Nat} (hi : R ≤ i ∧ i < R + N) : ∀ {D : List Nat}, (∀ j ∈ D, R ≤ j ∧ j < R + N) →
    (((keysV N D).find? fun e => e.1 == ((i % N : Nat) : Int)).map (·.2)).getD (boolv false) = boolv (decide (i ∈ D))
  | [], _ => rfl
  | d :: D, h => by
    unfold keysV
    rw [List.map_cons, List.find?_cons]
    by_cases e : d = i
    · subst e
      have e2 : (((((d % N : Nat) : Int), boolv true) : Int × AVal).1 == ((d % N : Nat) : Int)) = true := by simp
      rw [e2]
      exact congrArg boolv (decide_eq_true (List.mem_cons_self ..)).symm
    · have e2 : (((((d % N : Nat) : Int), boolv true) : Int × AVal).1 == ((i % N : Nat) : Int)) = false := by
        rw [beq_eq_false_iff_ne]
        intro h2
        exact e (mod_inj (h d (List.mem_cons_self ..)) hi (Int.ofNat.inj h2))
      rw [e2]
      refine (keys_look hi fun j hj => h j (List.mem_cons_of_mem _ hj)).trans (congrArg boolv (dec_congr ?_))
      rw [List.mem_cons]
      exact ⟨.inr, fun h => h.resolve_left fun q => e q.symm⟩
theorem keys_set {N R i : Nat} (hi : R ≤ i ∧ i < R + N) : ∀ {D : List Nat}, (∀ j ∈ D, R ≤ j ∧ j < R + N) → i ∉ D → mapSet (keysV N D) ((i % N : Nat) : Int) (boolv true) = keysV N (D ++ [i])
  | [], _, _ => rfl
  | d :: D, h, hn => by
    unfold keysV
    rw [List.map_cons, List.cons_append, List.map_cons]
    unfold mapSet
    have e2 : (((((d % N : Nat) : Int), boolv true) : Int × AVal).1 == ((i % N : Nat) : Int)) = false := by
      rw [beq_eq_false_iff_ne]
      intro h2
      exact hn (mod_inj (h d (List.mem_cons_self ..)) hi (Int.ofNat.inj h2) ▸ List.mem_cons_self ..)
    rw [e2]
    show _ :: mapSet (keysV N D) _ _ = _
    rw [keys_set hi (fun j hj => h j (List.mem_cons_of_mem _ hj)) (fun hm => hn (List.mem_cons_of_mem _ hm))]
    rfl
theorem keys_del {N R i : Nat} (hi : R ≤ i ∧ i < R + N) : ∀ {D : List Nat}, (∀ j ∈ D, R ≤ j ∧ j < R + N) → D.Nodup → mapDel (keysV N D) ((i % N : Nat) : Int) = keysV N (D.filter fun j => j != i)
  | [], _, _ => rfl
  | d :: D, h, hn => by
    have hn' := List.nodup_cons.1 hn
    unfold keysV
    rw [List.map_cons]
    unfold mapDel
    by_cases e : d = i
    · subst e
      have e2 : (((((d % N : Nat) : Int), boolv true) : Int × AVal).1 == ((d % N : Nat) : Int)) = true := by simp
      rw [e2, if_pos rfl, List.filter_cons, if_neg (show ¬ (d != d) = true by simp), List.filter_eq_self.2]
      intro j hj
      rw [bne_iff_ne]
      intro e; subst e; exact hn'.1 hj
    · have e2 : (((((d % N : Nat) : Int), boolv true) : Int × AVal).1 == ((i % N : Nat) : Int)) = false := by
        rw [beq_eq_false_iff_ne]
        intro h2
        exact e (mod_inj (h d (List.mem_cons_self ..)) hi (Int.ofNat.inj h2))
      rw [e2, if_neg (show ¬ false = true by decide), List.filter_cons, if_pos (show (d != i) = true by rw [bne_iff_ne]; exact e)]
      show _ :: mapDel (keysV N D) _ = _
      rw [keys_del hi (fun j hj => h j (List.mem_cons_of_mem _ hj)) hn'.2]
      rfl

def mx (D : List Nat) : Nat := D.foldr (fun x m => max (x + 1) m) 0
theorem mx_gt : ∀ {D : List Nat} {i : Nat}, i ∈ D → i < mx D
  | d :: D, i, h => by
    show i < max (d + 1) (mx D)
    rcases List.mem_cons.1 h with rfl | h
    · omega
    · have := mx_gt h; omega
def skipA (D : List Nat) : Nat → Nat → Nat
  | 0, i => i
  | f + 1, i => if i ∈ D then skipA D f (i + 1) else i
/-- The first place from one on that is not whole. -/
def skipF (D : List Nat) (i : Nat) : Nat := skipA D (mx D - i) i
structure IsSkip (D : List Nat) (i j : Nat) : Prop where
  le : i ≤ j
  all : ∀ m, i ≤ m → m < j → m ∈ D
  no : j ∉ D
theorem skipA_is (D : List Nat) : ∀ (f i : Nat), mx D ≤ f + i → IsSkip D i (skipA D f i)
  | 0, i, h => show IsSkip D i i from ⟨Nat.le_refl _, fun m h1 h2 => absurd (Nat.lt_of_le_of_lt h1 h2) (Nat.lt_irrefl _), fun hm => by have := mx_gt hm; omega⟩
  | f + 1, i, h => by
    unfold skipA
    split
    · rename_i hm
      obtain ⟨a, b, c⟩ := skipA_is D f (i + 1) (by omega)
      refine ⟨by omega, fun m h1 h2 => ?_, c⟩
      by_cases e : m = i
      · subst e; exact hm
      · exact b m (by omega) h2
    · rename_i hm
      exact ⟨Nat.le_refl _, fun m h1 h2 => absurd (Nat.lt_of_le_of_lt h1 h2) (Nat.lt_irrefl _), hm⟩
theorem skipF_is (D : List Nat) (i : Nat) : IsSkip D i (skipF D i) := skipA_is D _ i (by omega)
theorem IsSkip.uniq {D : List Nat} {i j k : Nat} (h : IsSkip D i j) (h' : IsSkip D i k) : j = k := by
  rcases Nat.lt_trichotomy j k with e | e | e
  · exact absurd (h'.all j h.le e) h.no
  · exact e
  · exact absurd (h.all k h'.le e) h'.no
theorem IsSkip.eq {D : List Nat} {i j : Nat} (h : IsSkip D i j) : skipF D i = j := (skipF_is D i).uniq h
theorem skipF_le {D : List Nat} {i b : Nat} (hi : i ≤ b) (h : ∀ j ∈ D, j < b) : skipF D i ≤ b := by
  have hs := skipF_is D i
  refine Nat.le_of_not_lt fun e => ?_
  have := h b (hs.all b hi e)
  omega
theorem skipF_mono {D : List Nat} {i j : Nat} (h : i ≤ j) : skipF D i ≤ skipF D j := by
  have hi := skipF_is D i
  have hj := skipF_is D j
  refine Nat.le_of_not_lt fun e => ?_
  exact hj.no (hi.all _ (Nat.le_trans h hj.le) e)

/-! What calls come to. -/
def RxA.far (N : Nat) (A : RxA) (k : Int) : Int := if numOk N k = true then ((posN N A.R k - A.R : Nat) : Int) else -1
def RxA.inW (N size : Nat) (A : RxA) (k : Int) : Bool := numOk N k && decide (posN N A.R k < A.R + size)
def RxA.isW (N size : Nat) (A : RxA) (k : Int) : Bool := A.inW N size k && decide (posN N A.R k ∈ A.D)
def RxA.ask (N size : Nat) (A : RxA) (k : Int) : Int := if numOk N k = true then (if posN N A.R k < A.R + size then 0 else 11) else 1
def RxA.came (N size : Nat) (A : RxA) (k : Int) : RxA := if A.ask N size k = 0 ∧ A.H ≤ posN N A.R k then { A with H := posN N A.R k + 1 } else A
def RxA.done (A : RxA) (i : Nat) : RxA := ⟨skipF (A.D ++ [i]) A.R, skipF (A.D ++ [i]) A.MS, A.H, (A.D ++ [i]).filter fun j => decide (skipF (A.D ++ [i]) A.R ≤ j)⟩
def RxA.whole (N size : Nat) (A : RxA) (k : Int) : RxA := if A.ask N size k = 0 ∧ posN N A.R k ∉ A.D then (A.came N size k).done (posN N A.R k) else A
def RxA.wholeC (N size : Nat) (A : RxA) (k : Int) : Int := if A.ask N size k = 0 then (if posN N A.R k ∈ A.D then 12 else 0) else A.ask N size k
def numsV (N : Nat) (l : List Nat) : List Int := l.map fun i => ((i % N : Nat) : Int)
def RxA.wholeL (N size : Nat) (A : RxA) (k : Int) : List Int := if A.wholeC N size k = 0 then numsV N (List.range' A.R ((A.whole N size k).R - A.R)) else []
def RxA.lateC (N : Nat) (A : RxA) (k : Int) : Int := if numOk N k = true then (if A.H < posN N A.R k then 11 else 0) else 1
def RxA.late (N : Nat) (A : RxA) (k : Int) : RxA := if A.lateC N k = 0 ∧ A.MS ≤ posN N A.R k then { A with MS := skipF A.D (posN N A.R k) } else A
def RxA.missing (N : Nat) (A : RxA) : List Int := numsV N ((List.range' A.R (A.MS - A.R)).filter fun i => decide (i ∉ A.D))

theorem RxA.ask_zero {N size : Nat} {A : RxA} {k : Int} (h : A.ask N size k = 0) : numOk N k = true ∧ posN N A.R k < A.R + size := by
  unfold RxA.ask at h
  split at h
  · split at h
    · exact ⟨by assumption, by assumption⟩
    · cases h
  · cases h
theorem RxOk.came {N size : Nat} {A : RxA} (h : RxOk N size A) (k : Int) : RxOk N size (A.came N size k) := by
  unfold RxA.came
  split
  · rename_i hc
    obtain ⟨_, h2⟩ := RxA.ask_zero hc.1
    exact ⟨h.rm, by have := h.mh; dsimp only; omega, by dsimp only; omega, fun i hi => by have := h.dR i hi; dsimp only; omega, h.nd⟩
  · exact h
theorem RxA.came_R {N size : Nat} {A : RxA} {k : Int} : (A.came N size k).R = A.R ∧ (A.came N size k).MS = A.MS ∧ (A.came N size k).D = A.D := by
  unfold RxA.came; split <;> exact ⟨rfl, rfl, rfl⟩
theorem RxOk.done {N size : Nat} {A : RxA} (h : RxOk N size A) {i : Nat} (hi : A.R ≤ i ∧ i < A.H) (hn : i ∉ A.D) : RxOk N size (A.done i) := by
  have hR := skipF_is (A.D ++ [i]) A.R
  have hd : ∀ j ∈ A.D ++ [i], A.R ≤ j ∧ j < A.H := fun j hj => by
    rcases List.mem_append.1 hj with hj | hj
    · have := h.dR j hj; omega
    · rw [List.mem_singleton.1 hj]; exact hi
  unfold RxA.done
  refine ⟨skipF_mono h.rm, skipF_le h.mh fun j hj => (hd j hj).2, ?_, fun j hj => ?_, ?_⟩
  · dsimp only; have := h.hr; have := hR.le; omega
  · obtain ⟨h1, h2⟩ := List.mem_filter.1 hj
    have h2 := of_decide_eq_true h2
    refine ⟨?_, (hd j h1).2⟩
    dsimp only
    rcases Nat.lt_or_eq_of_le h2 with h3 | h3
    · exact h3
    · exact absurd (h3 ▸ h1) hR.no
  · refine List.Pairwise.filter _ ?_
    exact List.nodup_append.2 ⟨h.nd, by simp, fun a ha b hb e => by
      subst e; rw [List.mem_singleton.1 hb] at ha; exact hn ha⟩
theorem RxA.came_H {N size : Nat} {A : RxA} {k : Int} (h : A.ask N size k = 0) : posN N A.R k < (A.came N size k).H := by
  unfold RxA.came
  split
  · exact Nat.lt_succ_self _
  · rename_i hc
    exact Nat.lt_of_not_le fun e => hc ⟨h, e⟩
theorem RxOk.whole {N size : Nat} {A : RxA} (hN : 0 < N) (h : RxOk N size A) (k : Int) : RxOk N size (A.whole N size k) := by
  unfold RxA.whole
  split
  · rename_i hc
    obtain ⟨r1, r2, r3⟩ := RxA.came_R (N := N) (size := size) (A := A) (k := k)
    exact (h.came k).done ⟨by rw [r1]; exact (posN_bound k hN).1, RxA.came_H hc.1⟩ (by rw [r3]; exact hc.2)
  · exact h
theorem RxOk.late {N size : Nat} {A : RxA} (h : RxOk N size A) (k : Int) : RxOk N size (A.late N k) := by
  unfold RxA.late
  split
  · rename_i hc
    have hs := skipF_is A.D (posN N A.R k)
    have hle : posN N A.R k ≤ A.H := by
      have := hc.1
      unfold RxA.lateC at this
      split at this
      · split at this
        · cases this
        · omega
      · cases this
    exact ⟨by have := h.rm; have := hs.le; have := hc.2; dsimp only; omega, skipF_le hle fun j hj => (h.dR j hj).2, h.hr, h.dR, h.nd⟩
  · exact h
theorem RxOk.zero (N size : Nat) : RxOk N size ⟨0, 0, 0, []⟩ := ⟨Nat.le_refl _, Nat.le_refl _, Nat.zero_le _, nofun, .nil⟩
end Go.Proofs.YtgbpjbpdpgbngaaGreat
/-
  The window of what comes: what its functions tell.
-/
namespace Go.Proofs.YtgbpjbpdpgbngaaGreat
open Go Go.Am

abbrev rxC (n N size : Nat) (A : RxA) (im : Nat) : List AVal := [i64v n, i64v size, i64v ((A.R % N : Nat) : Int), i64v ((A.MS % N : Nat) : Int), i64v ((A.H % N : Nat) : Int), .map im]
abbrev rxL (n N size : Nat) (A : RxA) (iw im : Nat) (F : List HE) : List HE := .o iw (.cells (rxC n N size A im)) :: .o im (.map (keysV N A.D)) :: F

section
variable {σ : AHeap} {n N size iw im : Nat} {A : RxA}
theorem wMade (b1 : σ iw = some (.cells (rxC n N size A im))) : ACalls Tryz.prog i_rxwin_Window_made [.ptr iw 0] σ fun v σ' => v = boolv true ∧ σ' = σ := by
  refine k_rxwin_Window_made rfl ?_
  have H := Hp.nil σ
  (refine wX ?_)
  (repeat ((refine zB H b1 rfl ?_); (refine wX ?_)))
  exact aret (VLe.refl _) H.sub ⟨rfl, rfl⟩
theorem wState (b1 : σ iw = some (.cells (rxC n N size A im))) : ACalls Tryz.prog i_rxwin_Window_State [.ptr iw 0] σ fun v σ' => v = .agg [i64v ((A.R % N : Nat) : Int), i64v ((A.MS % N : Nat) : Int), i64v ((A.H % N : Nat) : Int)] ∧ σ' = σ := by
  refine k_rxwin_Window_State rfl ?_
  have H := Hp.nil σ
  (refine wX ?_)
  refine hnew H rfl ?_
  clear H
  intro i2 τ H
  (refine wX ?_)
  refine acall (wMade (H.sub _ _ b1)) ?_
  rintro _ σ_ ⟨rfl, e_⟩
  obtain rfl := e_.symm
  refine ⟨?_, Ext.refl _⟩
  (refine wX ?_)
  (repeat ((first | refine zB H b1 rfl ?_ | (apply zA H; (· repeat first | exact .h | apply AtK.t)) | (apply zS H; (· repeat first | exact .h | apply AtK.t); (· rfl); (conv => whnf); clear H; intro τ H)); (refine wX ?_)))
  exact aret (VLe.refl _) H.sub ⟨rfl, rfl⟩
theorem wFar (p : RxP n N size) (b1 : σ iw = some (.cells (rxC n N size A im))) (k : Int) : ACalls Tryz.prog i_rxwin_Window_Far [.ptr iw 0, i64v k] σ fun v σ' => v = i64v (A.far N k) ∧ σ' = σ := by
  have hN : 0 < N := by have := p.s1; have := p.s2; omega
  refine k_rxwin_Window_Far rfl ?_
  have H := Hp.nil σ
  (refine wX ?_)
  refine acall (wMade b1) ?_
  rintro _ σ_ ⟨rfl, e_⟩
  obtain rfl := e_.symm
  refine ⟨?_, Ext.refl _⟩
  (refine wX ?_)
  (repeat ((first | refine zB H b1 rfl ?_ | refine zC H b1 ?_); (refine wX ?_)))
  refine acall (sqFar n ((A.R % N : Nat) : Int) k σ) ?_
  rintro _ σ_ ⟨rfl, e_⟩
  obtain rfl := e_.symm
  refine ⟨?_, Ext.refl _⟩
  (refine wX ?_)
  have hr : isNum n ((A.R % N : Nat) : Int) = true := by rw [isNum_numOk p]; exact numOk_mod _ hN
  have hc : farC n ((A.R % N : Nat) : Int) k = if numOk N k = true then 0 else 1 := by
    unfold farC askCode
    rw [if_pos p.ok, List.all_cons, List.all_cons, List.all_nil, hr, isNum_numOk p]
    cases numOk N k <;> rfl
  have hv : numOk N k = true → farV n ((A.R % N : Nat) : Int) k = ((posN N A.R k - A.R : Nat) : Int) := fun h => by
    unfold farV
    rw [if_pos ⟨p.ok, hr, by rw [isNum_numOk p]; exact h⟩, p.sz]
    unfold posN
    have h1 := Int.emod_nonneg (k - ((A.R % N : Nat) : Int)) (show (N : Int) ≠ 0 by omega)
    omega
  rw [hc]
  unfold RxA.far
  by_cases h : numOk N k = true
  · rw [if_pos h, if_pos h, hv h]
    (refine wX ?_)
    exact aret (VLe.refl _) H.sub ⟨rfl, rfl⟩
  · rw [if_neg h, if_neg h]
    (refine wX ?_)
    exact aret (VLe.refl _) H.sub ⟨rfl, rfl⟩
theorem wIn (p : RxP n N size) (b1 : σ iw = some (.cells (rxC n N size A im))) (k : Int) : ACalls Tryz.prog i_rxwin_Window_In [.ptr iw 0, i64v k] σ fun v σ' => v = boolv (A.inW N size k) ∧ σ' = σ := by
  have hN : 0 < N := by have := p.s1; have := p.s2; omega
  have hb := posN_bound (N := N) (R := A.R) k hN
  refine k_rxwin_Window_In rfl ?_
  have H := Hp.nil σ
  (refine wX ?_)
  refine acall (wMade b1) ?_
  rintro _ σ_ ⟨rfl, e_⟩
  obtain rfl := e_.symm
  refine ⟨?_, Ext.refl _⟩
  (refine wX ?_)
  refine acall (wFar p b1 k) ?_
  rintro _ σ_ ⟨rfl, e_⟩
  obtain rfl := e_.symm
  refine ⟨?_, Ext.refl _⟩
  (refine wX ?_)
  unfold RxA.inW
  by_cases h : numOk N k = true
  · have hf : A.far N k = ((posN N A.R k - A.R : Nat) : Int) := by unfold RxA.far; rw [if_pos h]
    rw [hf, h]
    (repeat ((first | refine zY (by omega) ?_ | refine zB H b1 rfl ?_); (refine wX ?_)))
    refine acall (wFar p b1 k) ?_
    rintro _ σ_ ⟨rfl, e_⟩
    obtain rfl := e_.symm
    refine ⟨?_, Ext.refl _⟩
    (refine wX ?_)
    rw [hf]
    exact aret (VLe.refl _) H.sub ⟨congrArg boolv (by rw [Bool.true_and]; exact dec_congr (by omega)), rfl⟩
  · have hf : A.far N k = -1 := by unfold RxA.far; rw [if_neg h]
    have h2 : numOk N k = false := by simpa using h
    rw [hf, h2]
    (repeat ((refine zN (by omega) ?_); (refine wX ?_)))
    exact aret (VLe.refl _) H.sub ⟨rfl, rfl⟩
theorem inW_iff {k : Int} : A.inW N size k = true ↔ numOk N k = true ∧ posN N A.R k < A.R + size := by
  unfold RxA.inW; rw [Bool.and_eq_true, decide_eq_true_iff]
theorem dR_all (ok : RxOk N size A) (h : size ≤ N) : ∀ j ∈ A.D, A.R ≤ j ∧ j < A.R + N := fun j hj => by
  have := ok.dR j hj; have := ok.hr; omega
theorem wIs (p : RxP n N size) (ok : RxOk N size A) (b1 : σ iw = some (.cells (rxC n N size A im))) (b2 : σ im = some (.map (keysV N A.D))) (k : Int) :
    ACalls Tryz.prog i_rxwin_Window_Is [.ptr iw 0, i64v k] σ fun v σ' => v = boolv (A.isW N size k) ∧ σ' = σ := by
  have hN : 0 < N := by have := p.s1; have := p.s2; omega
  have hb := posN_bound (N := N) (R := A.R) k hN
  have hs := p.s2
  refine k_rxwin_Window_Is rfl ?_
  have H := Hp.nil σ
  (refine wX ?_)
  refine ⟨⟨_, fun σx hx => wIn p (hx _ _ rfl b1) k, ?_⟩⟩
  (refine wX ?_)
  unfold RxA.isW
  cases h : A.inW N size k
  · (refine wX ?_)
    exact aret (VLe.refl _) H.sub ⟨rfl, rfl⟩
  · obtain ⟨h1, h2⟩ := inW_iff.1 h
    (refine wX ?_)
    (repeat ((refine zB H b1 rfl ?_); (refine wX ?_)))
    refine hlookB H b2 ?_
    have e := keys_look (N := N) (R := A.R) (i := posN N A.R k) hb (dR_all ok (by omega))
    rw [posN_mod hN h1] at e
    rw [e]
    (refine wX ?_)
    exact aret (VLe.refl _) H.sub ⟨rfl, rfl⟩
theorem wAfter (p : RxP n N size) (b1 : σ iw = some (.cells (rxC n N size A im))) (i : Nat) : ACalls Tryz.prog i_rxwin_Window_after [.ptr iw 0, i64v ((i % N : Nat) : Int)] σ fun v σ' => v = i64v (((i + 1) % N : Nat) : Int) ∧ σ' = σ := by
  have hN : 0 < N := by have := p.s1; have := p.s2; omega
  refine k_rxwin_Window_after rfl ?_
  have H := Hp.nil σ
  (refine wX ?_)
  (repeat ((refine zC H b1 ?_); (refine wX ?_)))
  refine acall (sqGo n ((i % N : Nat) : Int) 1 σ) ?_
  rintro _ σ_ ⟨rfl, e_⟩
  obtain rfl := e_.symm
  refine ⟨?_, Ext.refl _⟩
  (refine wX ?_)
  have hr : isNum n ((i % N : Nat) : Int) = true := by rw [isNum_numOk p]; exact numOk_mod _ hN
  have ha : askCode n [((i % N : Nat) : Int)] = 0 := askCode_zero.2 ⟨p.ok, fun x hx => by rw [List.mem_singleton.1 hx]; exact hr⟩
  have hg : goV n ((i % N : Nat) : Int) 1 = (((i + 1) % N : Nat) : Int) := by
    unfold goV
    rw [if_pos ⟨ha, by decide, by decide⟩, p.sz, Int.natCast_emod, Int.natCast_emod, Int.natCast_add, Int.emod_add_emod]
    rfl
  rw [hg]
  exact aret (VLe.refl _) H.sub ⟨rfl, rfl⟩
theorem wAsk (p : RxP n N size) (b1 : σ iw = some (.cells (rxC n N size A im))) (k : Int) : ACalls Tryz.prog i_rxwin_Window_ask [.ptr iw 0, i64v k] σ fun v σ' => v = i64v (A.ask N size k) ∧ σ' = σ := by
  refine k_rxwin_Window_ask rfl ?_
  have H := Hp.nil σ
  (refine wX ?_)
  refine acall (wMade b1) ?_
  rintro _ σ_ ⟨rfl, e_⟩
  obtain rfl := e_.symm
  refine ⟨?_, Ext.refl _⟩
  (refine wX ?_)
  refine acall (wFar p b1 k) ?_
  rintro _ σ_ ⟨rfl, e_⟩
  obtain rfl := e_.symm
  refine ⟨?_, Ext.refl _⟩
  (refine wX ?_)
  unfold RxA.ask
  by_cases h : numOk N k = true
  · have hf : A.far N k = ((posN N A.R k - A.R : Nat) : Int) := by unfold RxA.far; rw [if_pos h]
    rw [hf, if_pos h]
    (repeat ((refine zN (by omega) ?_); (refine wX ?_)))
    refine ⟨⟨_, fun σx hx => wIn p (hx _ _ rfl b1) k, ?_⟩⟩
    (refine wX ?_)
    by_cases h2 : posN N A.R k < A.R + size
    · rw [inW_iff.2 ⟨h, h2⟩, if_pos h2]
      (refine wX ?_)
      exact aret (VLe.refl _) H.sub ⟨rfl, rfl⟩
    · rw [show A.inW N size k = false by cases e : A.inW N size k; rfl; exact (h2 (inW_iff.1 e).2).elim, if_neg h2]
      (refine wX ?_)
      exact aret (VLe.refl _) H.sub ⟨rfl, rfl⟩
  · have hf : A.far N k = -1 := by unfold RxA.far; rw [if_neg h]
    rw [hf, if_neg h]
    (repeat ((refine zY (by omega) ?_); (refine wX ?_)))
    exact aret (VLe.refl _) H.sub ⟨rfl, rfl⟩
theorem wSkip (p : RxP n N size) {D : List Nat} (hd : ∀ j ∈ D, A.R ≤ j ∧ j < A.R + size) (b1 : σ iw = some (.cells (rxC n N size A im))) (b2 : σ im = some (.map (keysV N D))) (i : Nat) (hi : A.R ≤ i ∧ i ≤ A.R + size) :
    ACalls Tryz.prog i_rxwin_Window_skip [.ptr iw 0, i64v ((i % N : Nat) : Int)] σ fun v σ' => v = i64v ((skipF D i % N : Nat) : Int) ∧ σ' = σ := by
  have hs := p.s2
  have hs1 := p.s1
  refine k_rxwin_Window_skip rfl ?_
  have H := Hp.nil σ
  (refine wX ?_)
  refine aloop (α := Nat) (fun j => [(s1, i64v ((j % N : Nat) : Int))]) (fun _ => σ) (fun j => i ≤ j ∧ j ≤ A.R + size ∧ ∀ m, i ≤ m → m < j → m ∈ D) (fun j => A.R + size - j) i ⟨Nat.le_refl _, hi.2, fun m h1 h2 => by omega⟩ (Sub.refl _) ?_ ?_
  · (refine wX ?_)
    exact elX
  rintro j ⟨h1, h2, h3⟩
  (refine wX ?_)
  (repeat ((refine zB H b1 rfl ?_); (refine wX ?_)))
  refine hlookB H b2 ?_
  rw [keys_look (N := N) (R := A.R) (i := j) (by omega) (fun m hm => by have := hd m hm; omega)]
  by_cases hm : j ∈ D
  · have hlt := (hd j hm).2
    rw [decide_eq_true hm]
    (refine wX ?_)
    refine acall (wAfter p b1 j) ?_
    rintro _ σ_ ⟨rfl, e_⟩
    obtain rfl := e_.symm
    refine ⟨?_, Ext.refl _⟩
    (refine wX ?_)
    refine ⟨j + 1, ⟨by omega, by omega, fun m a b => ?_⟩, by omega, Sub.refl _, ?_⟩
    · by_cases e : m = j
      · rw [e]; exact hm
      · exact h3 m a (by omega)
    · (refine wX ?_)
      exact elX
  · rw [decide_eq_false hm, IsSkip.eq ⟨h1, h3, hm⟩]
    (refine wX ?_)
    exact aret (VLe.refl _) H.sub ⟨rfl, rfl⟩
theorem nums_snoc (l : List Nat) (i : Nat) : (numsV N l).map i64v ++ [i64v ((i % N : Nat) : Int)] = (numsV N (l ++ [i])).map i64v := by unfold numsV; rw [List.map_append, List.map_append]; rfl
theorem filter_snoc {p : Nat → Bool} {R j : Nat} : (List.range' R (j + 1)).filter p = (List.range' R j).filter p ++ if p (R + j) = true then [R + j] else [] := by
  rw [List.range'_concat, List.filter_append, Nat.one_mul, List.filter_cons, List.filter_nil]
set_option maxRecDepth 10000 in
theorem wMissing (p : RxP n N size) (ok : RxOk N size A) (b1 : σ iw = some (.cells (rxC n N size A im))) (b2 : σ im = some (.map (keysV N A.D))) :
    ACalls Tryz.prog i_rxwin_Window_Missing [.ptr iw 0] σ fun v σ' => v = ints .none (A.missing N) ∧ σ' = σ := by
  have hs := p.s2
  have hs1 := p.s1
  have hle := p.le
  have h1 := ok.rm; have h2 := ok.mh; have h3 := ok.hr
  refine k_rxwin_Window_Missing rfl ?_
  have H := Hp.nil σ
  (refine wX ?_)
  refine acall (wMade b1) ?_
  rintro _ σ_ ⟨rfl, e_⟩
  obtain rfl := e_.symm
  refine ⟨?_, Ext.refl _⟩
  (refine wX ?_)
  (repeat ((refine zB H b1 rfl ?_); (refine wX ?_)))
  have H := H.cons_full
  refine aloop (α := Nat × Tok × AHeap) (fun y => [(s4, i64v (((A.R + y.1) % N : Nat) : Int)), (s3, ints y.2.1 (numsV N ((List.range' A.R y.1).filter fun i => decide (i ∉ A.D))))]) (fun y => y.2.2)
    (fun y => A.R + y.1 ≤ A.MS ∧ Hp σ [.t y.2.1] y.2.2) (fun y => A.MS - A.R - y.1) (0, .full, σ) ⟨by simpa using h1, H⟩ (Sub.refl _) ?_ ?_
  · (refine wX ?_)
    exact elX
  rintro ⟨j, tk, τ⟩ ⟨hj, H⟩
  dsimp only at hj H ⊢
  have hlen : (numsV N ((List.range' A.R j).filter fun i => decide (i ∉ A.D))).length ≤ j := by
    unfold numsV; rw [List.length_map]
    exact Nat.le_trans (List.length_filter_le _ _) (by rw [List.length_range']; exact Nat.le_refl _)
  (refine wX ?_)
  (repeat ((refine zB H b1 rfl ?_); (refine wX ?_)))
  by_cases e : A.R + j = A.MS
  · refine abr_no (by rw [e]; exact fun h => h rfl) ?_
    (refine wX ?_)
    refine aret (VLe.slice _ _ _) H.sub ⟨?_, rfl⟩
    unfold RxA.missing
    rw [show A.MS - A.R = j by omega]
  · refine abr_yes (fun h => e (mod_inj (N := N) (R := A.R) (by omega) (by omega) (Int.ofNat.inj h))) ?_
    (refine wX ?_)
    (repeat ((refine zB H b1 rfl ?_); (refine wX ?_)))
    refine hlookB H b2 ?_
    rw [keys_look (N := N) (R := A.R) (i := A.R + j) (by omega) (dR_all ok (by omega))]
    by_cases hm : A.R + j ∈ A.D
    · rw [decide_eq_true hm]
      (refine wX ?_)
      refine acall (wAfter p (H.sub _ _ b1) (A.R + j)) ?_
      rintro _ σ_ ⟨rfl, e_⟩
      obtain rfl := e_.symm
      refine ⟨?_, Ext.refl _⟩
      (refine wX ?_)
      refine ⟨(j + 1, tk, τ), ⟨by dsimp only; omega, H⟩, by dsimp only; omega, Sub.refl _, ?_⟩
      dsimp only
      rw [filter_snoc, if_neg (by simpa using hm), List.append_nil]
      (refine wX ?_)
      exact elX
    · rw [decide_eq_false hm]
      (refine wX ?_)
      apply zP H
      · (repeat first | exact .h | apply AtK.t)
      · exact (by rw [List.length_map]; show (_ + 1) * 8 ≤ _; omega)
      intro tk2
      (conv => whnf)
      clear H
      intro τ H
      (refine wX ?_)
      rw [nums_snoc]
      refine acall (wAfter p (H.sub _ _ b1) (A.R + j)) ?_
      rintro _ σ_ ⟨rfl, e_⟩
      obtain rfl := e_.symm
      refine ⟨?_, Ext.refl _⟩
      (refine wX ?_)
      refine ⟨(j + 1, tk2, τ), ⟨by dsimp only; omega, H⟩, by dsimp only; omega, Sub.refl _, ?_⟩
      dsimp only
      rw [filter_snoc, if_pos (by simpa using hm)]
      (refine wX ?_)
      exact elX
end
end Go.Proofs.YtgbpjbpdpgbngaaGreat
