/-
  Texts of this claim, pack 5: Cbase, Cnuma, Cjoin, Clensz, Cnumc, Cspa, Cspb, Ctok, Chp, Cvia, Cspan, Cspao, Cspn, Cnumd, Clists, Cseq, Cumd, Camd, Camda, Crxba, Cqrow, Crxbb, Crxbc, Crxbd, Cmsa.
-/
import Derived.Test.YtgbpjbpdpgbngaaGreatK2
import Derived.Test.YtgbpjbpdpgbngaaGreatK3
import Derived.Maps.RangeWalk
import Derived.Maps.AppendAt
import Derived.OwnWalk
import Derived.WalkKit
import Derived.WalkSpells
import Derived.Sort.OwnSortedInts
import Derived.Shelf.Lay
import Derived.Ground.SlbNamesProg
import Derived.Shelf.Bytes.SlJoin
import Derived.Ground.NamesProg
set_option linter.unusedSimpArgs false
set_option linter.unusedVariables false
/-
  Words and contracts that all packages share.
-/
namespace Go.Proofs.YtgbpjbpdpgbngaaGreat
open Go Go.Am

abbrev i64v (n : Int) : AVal := .v (.int .i64 n)

abbrev boolv (b : Bool) : AVal := .v (.bool b)

abbrev sl (t : Tok) (bs : List UInt8) : AVal := .slice 1 (bs.map byteV) t

abbrev u64v (n : Nat) : AVal := .v (.int .u64 n)
abbrev u8v (n : Nat) : AVal := .v (.int .u8 n)

theorem get_bytes {bs : List UInt8} {i : Nat} (h : i < bs.length) : (bs.map byteV)[((i : Nat) : Int).toNat]? = some (byteV bs[i]) := by
  rw [Int.toNat_natCast, List.getElem?_map, List.getElem?_eq_getElem h]; rfl

theorem Clone (bs : List UInt8) (t : Tok) (σ : AHeap) (hl : bs.length ≤ 140737488355328) : ACalls Tryz.prog i_slices_Clone_byte_byte [sl t bs] σ fun v σ' => ∃ tk, Owned σ σ' tk ∧ v = sl tk bs := by
  refine k_slices_Clone_byte_byte rfl ?_
  (conv => whnf)
  refine anil ?_ ?_
  · (conv => whnf)
    refine abr_false rfl ?_
    (conv => whnf)
    refine aapp_full (by simp; omega) fun t' ht' => ?_
    (conv => whnf)
    exact aret_same ⟨_, .tip ht', rfl⟩
  · intro h0
    (conv => whnf)
    refine abr_true rfl ?_
    (conv => whnf)
    have : bs = [] := by simpa using h0
    subst this
    exact aret_same ⟨_, .full σ, rfl⟩

theorem byte_ofNat {n : Nat} (h : n < 256) : byteV (UInt8.ofNat n) = .v (.int .u8 n) := by
  unfold byteV; rw [UInt8.toNat_ofNat']; simp [Nat.mod_eq_of_lt h]

theorem VLe.tup_sl {s : Nat} {xs : List AVal} {t : Tok} {ys : List AVal} : VLe (.tup (.slice s xs t :: ys)) (.tup (.slice s xs .none :: ys)) := VLe.tup (VLe.cons (VLe.slice _ _ _) fun _ _ h => h)

theorem bytes_ok (l : List UInt8) : (l.map byteV).all (okElem 1) = true := by
  rw [List.all_eq_true]; intro x hx; obtain ⟨b, _, rfl⟩ := List.mem_map.1 hx; rfl

theorem bytes_flat (l : List UInt8) : (l.map byteV).flatMap AVal.cells = l.map byteV := by
  induction l with
  | nil => rfl
  | cons x l ih => rw [List.map_cons, List.flatMap_cons, ih]; rfl

theorem bytes_one (l : List UInt8) : ∀ x ∈ l.map byteV, x.cells.length = 1 := by
  intro x hx; obtain ⟨b, _, rfl⟩ := List.mem_map.1 hx; rfl

theorem CloneM (bs : List UInt8) (t : Tok) (σ : AHeap) (hl : bs.length ≤ 140737488355328) : ACalls Tryz.prog i_slices_Clone_byte_byte [sl t bs] σ fun v σ' => (bs = [] ∧ v = sl .full [] ∧ σ' = σ) ∨ (bs ≠ [] ∧ ∃ r, σ r = none ∧ v = .ms r 1 0 bs.length ∧ σ' = upd σ r (.cells (bs.map byteV))) := by
  refine km_slices_Clone_byte_byte rfl ?_
  (conv => whnf)
  refine anil ?_ ?_
  · (conv => whnf)
    refine abr_false rfl ?_
    (conv => whnf)
    by_cases h0 : bs = []
    · subst h0
      refine aappnew_none (by simp) ?_
      (conv => whnf)
      exact aret_same (.inl ⟨rfl, rfl, rfl⟩)
    · refine aappnew (by simpa using h0) (by simp; omega) (bytes_ok bs) fun r hr => ?_
      rw [bytes_flat, List.length_map]
      (conv => whnf)
      exact aret_same (.inr ⟨h0, r, hr, rfl, rfl⟩)
  · intro h0
    (conv => whnf)
    refine abr_true rfl ?_
    (conv => whnf)
    have : bs = [] := by simpa using h0
    subst this
    exact aret_same (.inl ⟨rfl, rfl, rfl⟩)

end Go.Proofs.YtgbpjbpdpgbngaaGreat
/-
  The numbers of what is kept: what a walk over a map says, plain.
-/
namespace Go.Proofs.YtgbpjbpdpgbngaaGreat
open Go Go.Am Go.Maps Go.WideElems Go.MapKept
open Go.ChangeShapes Go.WideShapes
open Go.RowKit (Below)

/-- What is still to come, and what came. -/
structure KeysLeft (keys ks : List Int) (left : Lit → Bool) : Prop where
  nd : ks.Nodup
  sub : ∀ x ∈ ks, x ∈ keys
  lf : ∀ x ∈ keys, left (.int .i64 x) = !decide (x ∈ ks)
  only : ∀ kl, left kl = true → ∃ x ∈ keys, kl = .int .i64 x
theorem sameInt (x y : Int) : (Lit.int .i64 x).sameKey (.int .i64 y) = decide (x = y) := by
  simp [Lit.sameKey]
theorem KeysLeft.step {keys ks : List Int} {left : Lit → Bool} (h : KeysLeft keys ks left) {x : Int} (hx : left (.int .i64 x) = true) : KeysLeft keys (ks ++ [x]) (fun z => left z && !z.sameKey (.int .i64 x)) := by
  obtain ⟨y, hy, e⟩ := h.only _ hx
  have e : x = y := by injection e
  subst e
  have hn : x ∉ ks := fun hm => by rw [h.lf x hy, decide_eq_true hm] at hx; cases hx
  refine ⟨List.nodup_append.2 ⟨h.nd, by simp, fun a ha b hb e => hn (by rw [List.mem_singleton] at hb; rw [← hb, ← e]; exact ha)⟩, fun y hy' => ?_, fun y hy' => ?_, fun kl hk => ?_⟩
  · rcases List.mem_append.1 hy' with h1 | h1
    · exact h.sub y h1
    · rw [List.mem_singleton.1 h1]; exact hy
  · rw [h.lf y hy', sameInt]
    by_cases h1 : y ∈ ks
    · simp [h1]
    · by_cases h2 : y = x
      · simp [h2]
      · simp [h1, h2]
  · rw [Bool.and_eq_true] at hk
    exact h.only kl hk.1
theorem KeysLeft.len {keys ks : List Int} {left : Lit → Bool} (h : KeysLeft keys ks left) : ks.length ≤ keys.length := h.nd.length_le_of_subset h.sub
theorem KeysLeft.perm {keys ks : List Int} {left : Lit → Bool} (h : KeysLeft keys ks left) (hk : keys.Nodup) (h0 : ∀ kl, left kl = false) : ks.Perm keys := by
  refine (List.perm_ext_iff_of_nodup h.nd hk).2 fun x => ⟨h.sub x, fun hx => ?_⟩
  have := h.lf x hx
  rw [h0] at this
  simpa using this
end Go.Proofs.YtgbpjbpdpgbngaaGreat
/-
  bytes.Join, out of the library's own contract.
-/
namespace Go.Proofs.YtgbpjbpdpgbngaaGreat
open Go Go.Am Go.Shelf Go.Lib
open Go.RowKit (Below)

theorem Inv_fresh {κ : Ghost} {σ : AHeap} {w w' : World} (h : Inv κ σ w) (hb : Below w.heap.size w w') {g : Nat} (hg : w.heap.size ≤ g) {vs : List Value} (ho : Ones vs) (hc : ∀ i v, vs[i]? = some v → w'.cell? ⟨g, i, none⟩ = some v) :
    ∃ κ', κ.le κ' ∧ Inv κ' σ w' ∧ ∀ i v, vs[i]? = some v → κ'.cell g i = some v := by
  have old : ∀ b o v, κ.cell b o = some v → b < w.heap.size := by
    intro b o v e
    have := (h.cell b o v e).1
    unfold World.cell? at this
    refine Classical.byContradiction fun hn => ?_
    rw [show w.heap[b]? = none from Array.getElem?_eq_none (by omega)] at this
    cases this
  have hle : κ.le { κ with cell := fun b o => if b = g then vs[o]? else κ.cell b o } := by
    refine ⟨rfl, rfl, fun b o v e => ?_, fun _ _ e => e, fun _ _ e => e, fun _ _ e => e⟩
    have := old b o v e
    dsimp only
    rw [if_neg (by omega)]; exact e
  refine ⟨_, hle, ?_, fun i v e => ?_⟩
  · refine ⟨h.below.trans (hb.mono h.base), Nat.le_trans h.base hb.size, ?_, ?_, ?_, h.inj, ?_, ?_, ?_, h.fin⟩
    · intro b o v e
      dsimp only at e
      by_cases hbg : b = g
      · rw [if_pos hbg] at e
        subst hbg
        exact ⟨hc o v e, ho v (List.mem_of_getElem? e)⟩
      · rw [if_neg hbg] at e
        obtain ⟨h1, h2⟩ := h.cell b o v e
        exact ⟨by rw [hb.cell (p := ⟨b, o, none⟩) (old b o v e)]; exact h1, h2⟩
    · intro b n e
      obtain ⟨c, ety, f, h1, h2⟩ := h.size b n e
      have hlt : b < w.heap.size := (Array.getElem?_eq_some_iff.1 h1).1
      exact ⟨c, ety, f, by rw [hb.block b hlt]; exact h1, h2⟩
    · intro i b e
      obtain ⟨h1, h2, h3⟩ := h.obj i b e
      refine ⟨h1, Nat.lt_of_lt_of_le h2 hb.size, fun hl o => ?_⟩
      dsimp only
      rw [if_neg (by omega)]; exact h3 hl o
    · intro i cs e
      obtain ⟨b, c, ety, vs', us, h1, h2, h3, h4, h5, h6, h7⟩ := h.cells i cs e
      have hlt := (h.obj i b h1).2.1
      refine ⟨b, c, ety, vs', us, h1, by rw [hb.block b hlt]; exact h2, h3, h4, RepL.mono hle h5, h6, h7⟩
    · intro i es e
      obtain ⟨b, c, clk, h1, h2, h3, h4⟩ := h.map i es e
      have hlt := (h.obj i b h1).2.1
      refine ⟨b, c, clk, h1, by rw [hb.block b hlt]; exact h2, h3, RepL.mono hle h4⟩
    · intro t b p e k
      obtain ⟨h1, ⟨c, ety, h2, h3⟩, h4, h5, h6⟩ := h.tip t b p e k
      have hlt : b < w.heap.size := (Array.getElem?_eq_some_iff.1 h2).1
      refine ⟨h1, ⟨c, ety, by rw [hb.block b hlt]; exact h2, h3⟩, fun o ho => ?_, h5, h6⟩
      dsimp only
      rw [if_neg (by omega)]; exact h4 o ho
  · dsimp only; rw [if_pos rfl]; exact e

theorem bytes_reps (κ : Ghost) : ∀ (l : List UInt8), RepL κ ((l.map byteV).flatMap AVal.cells) (l.map fun x => Value.int .u8 (x.toNat : Int))
  | [] => .nil
  | x :: l => .cons (.v rfl) (bytes_reps κ l)
theorem bytes_vals {κ : Ghost} : ∀ {l : List UInt8} {vs : List Value}, RepL κ ((l.map byteV).flatMap AVal.cells) vs → vs = l.map fun x => Value.int .u8 (x.toNat : Int)
  | [], _, h => by cases h; rfl
  | x :: l, _, h => by
    have h : RepL κ (byteV x :: (l.map byteV).flatMap AVal.cells) _ := h
    cases h with
    | cons h1 h2 =>
      obtain ⟨rfl, _⟩ := h1.v_inv
      rw [bytes_vals h2]; rfl

/-- A fresh slice of bytes, as the framework's. -/
theorem of_fresh {κ : Ghost} {σ : AHeap} {w w' : World} (h : Inv κ σ w) (hb : Below w.heap.size w w') {v : Value} {l : List UInt8} (hf : FreshBytes w.heap.size w' v l) : ∃ κ', κ.le κ' ∧ Inv κ' σ w' ∧ RepV κ' (sl .none l) v := by
  obtain ⟨g, cap, zs, rfl, hg, hcap, _, hz, hr, hbs, hcell, _⟩ := hf
  have hl : (zs.take l.length).length = l.length := by rw [List.length_take]; omega
  obtain ⟨κ', k1, k2, k3⟩ := Inv_fresh h hb hg (vs := l.map fun x => Value.int .u8 (x.toNat : Int)) (by intro v hv; obtain ⟨x, _, rfl⟩ := List.mem_map.1 hv; rfl) (by
    intro i v hv
    rw [List.getElem?_map] at hv
    obtain ⟨x, hx, rfl⟩ := Option.map_eq_some_iff.1 hv
    have hi : i < l.length := (List.getElem?_eq_some_iff.1 hx).1
    rw [hcell i (by omega)]
    rw [← hbs] at hx
    unfold bytesOf at hx
    rw [List.getElem?_map, List.getElem?_take_of_lt hi] at hx
    obtain ⟨z, hz2, rfl⟩ := Option.map_eq_some_iff.1 hx
    have hzr := hr z (List.mem_of_getElem? hz2)
    rw [List.getD_eq_getElem?_getD, hz2, Option.getD_some, UInt8.toNat_ofNat']
    congr 2; omega)
  refine ⟨κ', k1, k2, .slice (vs := l.map fun x => Value.int .u8 (x.toNat : Int)) (by rw [List.length_map]) hcap (bytes_one l) (bytes_reps κ' l) (fun i v hv => ?_) trivial⟩
  rw [Nat.zero_add]; exact k3 i v hv

theorem holds_of {κ : Ghost} {σ : AHeap} {w : World} (h : Inv κ σ w) {l : List UInt8} {t : Tok} {v : Value} (hr : RepV κ (sl t l) v) : HoldsBytes w v l := by
  rcases hr.slice_inv with ⟨⟨a, rfl⟩, hn⟩ | ⟨b, off, cap, vs, rfl, g2, g3, g4, g5, g6⟩
  · have hn : l = [] := by simpa using hn
    subst hn
    exact ⟨a, 0, rfl, fun _ => rfl, fun a h i x hx => by simp at hx⟩
  · rw [List.length_map] at g2 ⊢
    refine ⟨some ⟨b, off, none⟩, cap, rfl, nofun, fun a ha i x hx => ?_⟩
    cases ha
    rw [addr_eq]
    have := bytes_vals g4
    subst this
    exact (h.cell b (off + i) _ (g5 i _ (by rw [List.getElem?_map, hx]; rfl))).1

theorem parts_reps {κ : Ghost} {σ : AHeap} {w : World} (h : Inv κ σ w) : ∀ {l : List (List UInt8)} {vs : List Value}, RepL κ ((l.map (sl .none)).flatMap AVal.cells) vs → vs.length = l.length ∧ ∀ (i : Nat) v x, vs[i]? = some v → l[i]? = some x → HoldsBytes w v x
  | [], _, hr => by cases hr; exact ⟨rfl, fun i v x h => by simp at h⟩
  | a :: l, _, hr => by
    have hr : RepL κ (sl .none a :: (l.map (sl .none)).flatMap AVal.cells) _ := hr
    cases hr with
    | cons h1 h2 =>
      obtain ⟨e1, e2⟩ := parts_reps h h2
      refine ⟨by rw [List.length_cons, List.length_cons, e1], fun i v x hv hx => ?_⟩
      cases i with
      | zero => simp at hv hx; subst hv; subst hx; exact holds_of h h1
      | succ i => simp at hv hx; exact e2 i v x hv hx

theorem join_flatten : ∀ (l : List (List UInt8)), Lib.join l [] = l.flatten
  | [] => rfl
  | a :: l => by rw [Lib.join_cons]; unfold joinTail; simp

shelf_lay SlLaysJ.n14 Slb 14 at Tryz as Tryz.lays14

abbrev i_bytes_Join : FuncId := Tryz.lays14_ren.f 14
theorem Join (l : List (List UInt8)) (t u : Tok) (σ : AHeap) (hn : l.length ≤ 140737488355328) (hlen : l.flatten.length ≤ 140737488355328) :
    ACalls Tryz.prog i_bytes_Join [.slice 1 (l.map (sl .none)) t, .slice 1 [] u] σ fun v σ' => v = sl .none l.flatten ∧ σ' = σ := by
  rw [ACalls_def]
  intro κ w cargs hI hr
  cases hr with | cons h1 hr =>
  cases hr with | cons h2 hr =>
  cases hr
  have hS : HoldsBytes w _ [] := holds_of (l := []) hI h2
  rename_i v1 v2
  rcases h1.slice_inv with ⟨⟨a, rfl⟩, hl⟩ | ⟨b, off, cap, vs, rfl, g2, g3, g4, g5, g6⟩
  · have hl : l = [] := by simpa using hl
    subst hl
    refine (Any.bytes_Join_none Tryz.lays14 a 0 v2 w).mono fun e w' ⟨he, hw⟩ => ?_
    subst he; subst hw
    have hb : Below w.heap.size w (w.alloc (.cells #[] (Tryz.lays14_ren.t 5))) := (Below.refl _ w).alloc (Nat.le_refl _) _
    obtain ⟨κ', k1, k2, _⟩ := Inv_fresh hI hb (Nat.le_refl _) (vs := []) (by intro v hv; simp at hv) (by intro i v hv; simp at hv)
    exact ⟨_, κ', σ, _, rfl, k1, k2, .nil, rfl, rfl⟩
  · rw [List.length_map] at g2 ⊢
    obtain ⟨e1, e2⟩ := parts_reps hI g4
    have hcell : ∀ (i : Nat) v, vs[i]? = some v → w.cell? (Addr.add ⟨b, off, none⟩ i) = some v := fun i v hv => by rw [addr_eq]; exact (hI.cell b (off + i) v (g5 i v hv)).1
    match l, vs, e1 with
    | [], _, _ =>
      refine (Any.bytes_Join_none Tryz.lays14 (some ⟨b, off, none⟩) cap v2 w).mono fun e w' ⟨he, hw⟩ => ?_
      subst he; subst hw
      have hb : Below w.heap.size w (w.alloc (.cells #[] (Tryz.lays14_ren.t 5))) := (Below.refl _ w).alloc (Nat.le_refl _) _
      obtain ⟨κ', k1, k2, _⟩ := Inv_fresh hI hb (Nat.le_refl _) (vs := []) (by intro v hv; simp at hv) (by intro i v hv; simp at hv)
      exact ⟨_, κ', σ, _, rfl, k1, k2, .nil, rfl, rfl⟩
    | [x], [v0], _ =>
      obtain ⟨p, c0, rfl, hp, hbytes⟩ := e2 0 v0 x rfl rfl
      have hc0 := hcell 0 _ rfl
      rw [addr_eq, Nat.add_zero] at hc0
      by_cases hx : x.length = 0
      · have hx : x = [] := List.length_eq_zero_iff.1 hx
        subst hx
        refine (Any.bytes_Join_one_empty Tryz.lays14 b off cap p c0 v2 w hc0).mono fun e w' ⟨he, hw⟩ => ?_
        subst he; subst hw
        exact ⟨_, κ, σ, _, rfl, Ghost.le.refl κ, hI, .nil, rfl, rfl⟩
      · cases p with
        | none => rw [hp rfl] at hx; exact absurd rfl hx
        | some a =>
          simp only [List.flatten_cons, List.flatten_nil, List.append_nil] at hlen ⊢
          refine (Any.bytes_Join_one Tryz.lays14 b off cap a c0 x v2 w hc0 (hbytes a rfl) (by omega) hlen).mono fun e w' ⟨v', he, hf, hb⟩ => ?_
          subst he
          obtain ⟨κ', k1, k2, k3⟩ := of_fresh hI hb hf
          exact ⟨_, κ', σ, _, rfl, k1, k2, k3, rfl, rfl⟩
    | x :: y :: l, vs, e1 =>
      have hlens : Lib.lens (x :: y :: l) = (x :: y :: l).flatten.length := by unfold Lib.lens; rw [List.length_flatten]
      refine (Any.bytes_Join_many Tryz.lays14 b off (x :: y :: l).length cap vs (x :: y :: l) v2 [] w rfl (by simp) ⟨e1, hcell, e2⟩ g2 hS hn (by rw [hlens]; simpa using hlen)).mono fun e w' ⟨v', he, hf, hb⟩ => ?_
      subst he
      rw [join_flatten] at hf
      obtain ⟨κ', k1, k2, k3⟩ := of_fresh hI hb hf
      exact ⟨_, κ', σ, _, rfl, k1, k2, k3, rfl, rfl⟩
end Go.Proofs.YtgbpjbpdpgbngaaGreat
/-
  How many bytes lengths have.
-/
namespace Go.Proofs.YtgbpjbpdpgbngaaGreat
open Go Go.Am

abbrev ints (t : Tok) (l : List Int) : AVal := .slice 1 (l.map i64v) t
theorem get_ints {l : List Int} {i : Nat} (h : i < l.length) : (l.map i64v)[((i : Nat) : Int).toNat]? = some (i64v l[i]) := by
  rw [Int.toNat_natCast, List.getElem?_map, List.getElem?_eq_getElem h]; rfl

end Go.Proofs.YtgbpjbpdpgbngaaGreat
/-
  The numbers of what is kept: the contracts.
-/
namespace Go.Proofs.YtgbpjbpdpgbngaaGreat
open Go Go.Am Go.Maps Go.MapKept
open Go.RowKit (Below)

abbrev inR (n : Int) : Prop := (Lit.int .i64 n).wf = true
end Go.Proofs.YtgbpjbpdpgbngaaGreat
/-
  Spans: lists of them, and the places that they are.
-/
namespace Go.Proofs.YtgbpjbpdpgbngaaGreat
open Go Go.Am

abbrev Sp := Int × Int
def spRight (x : Sp) : Bool := decide (0 ≤ x.1 ∧ x.1 < x.2 ∧ x.2 ≤ 65536)
/-- Rising spans behind a place, none of which touches the next one. -/
def Nrm : Int → List Sp → Prop
  | _, [] => True
  | b, y :: l => b < y.1 ∧ y.1 < y.2 ∧ y.2 ≤ 65536 ∧ Nrm y.2 l
def hasP (l : List Sp) (p : Int) : Prop := ∃ y ∈ l, y.1 ≤ p ∧ p < y.2
theorem has_nil {p : Int} : hasP [] p ↔ False := ⟨fun ⟨_, h, _⟩ => (by cases h), False.elim⟩
theorem has_cons {y : Sp} {l : List Sp} {p : Int} : hasP (y :: l) p ↔ (y.1 ≤ p ∧ p < y.2) ∨ hasP l p := by
  unfold hasP
  constructor
  · rintro ⟨z, hz, h⟩
    rcases List.mem_cons.1 hz with rfl | hz
    · exact .inl h
    · exact .inr ⟨z, hz, h⟩
  · rintro (h | ⟨z, hz, h⟩)
    · exact ⟨y, List.mem_cons_self .., h⟩
    · exact ⟨z, List.mem_cons_of_mem _ hz, h⟩
theorem has_append {l m : List Sp} {p : Int} : hasP (l ++ m) p ↔ hasP l p ∨ hasP m p := by
  unfold hasP
  constructor
  · rintro ⟨z, hz, h⟩
    rcases List.mem_append.1 hz with hz | hz
    · exact .inl ⟨z, hz, h⟩
    · exact .inr ⟨z, hz, h⟩
  · rintro (⟨z, hz, h⟩ | ⟨z, hz, h⟩)
    · exact ⟨z, List.mem_append_left _ hz, h⟩
    · exact ⟨z, List.mem_append_right _ hz, h⟩
theorem Nrm.weak : ∀ {b b' : Int} {l : List Sp}, b' ≤ b → Nrm b l → Nrm b' l
  | _, _, [], _, _ => trivial
  | _, _, y :: l, h, ⟨h1, h2⟩ => ⟨by omega, h2⟩
theorem Nrm.lo : ∀ {b : Int} {l : List Sp} {p : Int}, Nrm b l → hasP l p → b < p
  | _, [], _, _, h => (has_nil.1 h).elim
  | b, y :: l, p, ⟨h1, h2, h3, h4⟩, h => by
    rcases has_cons.1 h with h | h
    · omega
    · have := Nrm.lo h4 h; omega
theorem Nrm.mem : ∀ {b : Int} {l : List Sp} {y : Sp}, Nrm b l → y ∈ l → b < y.1 ∧ y.1 < y.2 ∧ y.2 ≤ 65536
  | b, z :: l, y, ⟨h1, h2, h3, h4⟩, h => by
    rcases List.mem_cons.1 h with rfl | h
    · exact ⟨h1, h2, h3⟩
    · have := Nrm.mem h4 h; omega
theorem Nrm.uniq : ∀ {l m : List Sp} {b b' : Int}, Nrm b l → Nrm b' m → (∀ p, hasP l p ↔ hasP m p) → l = m
  | [], [], _, _, _, _, _ => rfl
  | [], z :: m, _, _, _, ⟨_, h2, _⟩, h => ((h z.1).2 (has_cons.2 (.inl ⟨Int.le_refl _, h2⟩))).elim fun _ h => by cases h.1
  | y :: l, [], _, _, ⟨_, h2, _⟩, _, h => ((h y.1).1 (has_cons.2 (.inl ⟨Int.le_refl _, h2⟩))).elim fun _ h => by cases h.1
  | y :: l, z :: m, b, b', ⟨h1, h2, h3, h4⟩, ⟨g1, g2, g3, g4⟩, h => by
    have e1 : z.1 ≤ y.1 := by
      rcases has_cons.1 ((h y.1).1 (has_cons.2 (.inl ⟨Int.le_refl _, h2⟩))) with k | k
      · exact k.1
      · have := Nrm.lo g4 k; omega
    have e2 : y.1 ≤ z.1 := by
      rcases has_cons.1 ((h z.1).2 (has_cons.2 (.inl ⟨Int.le_refl _, g2⟩))) with k | k
      · exact k.1
      · have := Nrm.lo h4 k; omega
    have e3 : ¬ y.2 < z.2 := fun hl => by
      rcases has_cons.1 ((h y.2).2 (has_cons.2 (.inl ⟨by omega, hl⟩))) with k | k
      · omega
      · have := Nrm.lo h4 k; omega
    have e4 : ¬ z.2 < y.2 := fun hl => by
      rcases has_cons.1 ((h z.2).1 (has_cons.2 (.inl ⟨by omega, hl⟩))) with k | k
      · omega
      · have := Nrm.lo g4 k; omega
    have ey : y = z := Prod.ext (by omega) (by omega)
    subst ey
    rw [Nrm.uniq h4 g4 fun p => ?_]
    constructor
    · intro k
      have := Nrm.lo h4 k
      rcases has_cons.1 ((h p).1 (has_cons.2 (.inr k))) with q | q
      · omega
      · exact q
    · intro k
      have := Nrm.lo g4 k
      rcases has_cons.1 ((h p).2 (has_cons.2 (.inr k))) with q | q
      · omega
      · exact q
theorem Nrm.snoc : ∀ {b : Int} {l : List Sp} {z : Sp}, Nrm b l → (∀ y ∈ l, y.2 < z.1) → b < z.1 → z.1 < z.2 → z.2 ≤ 65536 → Nrm b (l ++ [z])
  | _, [], z, _, _, h1, h2, h3 => ⟨h1, h2, h3, trivial⟩
  | _, y :: l, z, ⟨g1, g2, g3, g4⟩, h, h1, h2, h3 => ⟨g1, g2, g3, Nrm.snoc g4 (fun w hw => h w (List.mem_cons_of_mem _ hw)) (h y (List.mem_cons_self ..)) h2 h3⟩
theorem Nrm.init : ∀ {b : Int} {l m : List Sp}, Nrm b (l ++ m) → Nrm b l
  | _, [], _, _ => trivial
  | _, y :: l, m, ⟨g1, g2, g3, g4⟩ => ⟨g1, g2, g3, g4.init⟩
theorem Nrm.last : ∀ {b : Int} {l : List Sp} {z : Sp}, Nrm b (l ++ [z]) → (∀ y ∈ l, y.2 < z.1) ∧ b < z.1 ∧ z.1 < z.2 ∧ z.2 ≤ 65536
  | _, [], z, ⟨g1, g2, g3, _⟩ => ⟨nofun, g1, g2, g3⟩
  | _, y :: l, z, ⟨g1, g2, g3, g4⟩ => by
    obtain ⟨h1, h2, h3, h4⟩ := Nrm.last g4
    refine ⟨fun w hw => ?_, by omega, h3, h4⟩
    rcases List.mem_cons.1 hw with rfl | hw
    · exact h2
    · exact h1 w hw

/-- A span put in; whether it stands there already. -/
def addL (x : Sp) (put : Bool) : List Sp → List Sp
  | [] => if put = true then [] else [x]
  | y :: l => if y.2 < x.1 then y :: addL x put l else if y.1 > x.2 then (if put = true then y :: addL x put l else x :: y :: addL x true l) else addL (min x.1 y.1, max x.2 y.2) put l
theorem addL_true : ∀ {x : Sp} {l : List Sp}, x.1 < x.2 → Nrm x.2 l → addL x true l = l
  | _, [], _, _ => rfl
  | x, y :: l, hx, ⟨h1, h2, h3, h4⟩ => by
    unfold addL
    rw [if_neg (by omega), if_pos h1, if_pos rfl, addL_true hx (h4.weak (by omega))]
theorem addL_spec : ∀ {l : List Sp} {x : Sp} {b : Int}, Nrm b l → b < x.1 → x.1 < x.2 → x.2 ≤ 65536 → Nrm b (addL x false l) ∧ ∀ p, hasP (addL x false l) p ↔ hasP l p ∨ (x.1 ≤ p ∧ p < x.2)
  | [], x, b, _, h1, h2, h3 => ⟨⟨h1, h2, h3, trivial⟩, fun p => by
    show hasP [x] p ↔ _
    rw [has_cons, has_nil]
    exact ⟨fun h => .inr (h.resolve_right id), fun h => .inl (h.resolve_left id)⟩⟩
  | y :: l, x, b, ⟨g1, g2, g3, g4⟩, h1, h2, h3 => by
    unfold addL
    by_cases c1 : y.2 < x.1
    · rw [if_pos c1]
      obtain ⟨k1, k2⟩ := addL_spec g4 c1 h2 h3
      refine ⟨⟨g1, g2, g3, k1⟩, fun p => ?_⟩
      rw [has_cons, has_cons, k2 p, or_assoc]
    · rw [if_neg c1]
      by_cases c2 : y.1 > x.2
      · rw [if_pos c2, if_neg (by decide), addL_true h2 (g4.weak (by omega))]
        refine ⟨⟨h1, h2, h3, c2, g2, g3, g4⟩, fun p => ?_⟩
        rw [has_cons]
        exact Or.comm
      · rw [if_neg c2]
        obtain ⟨k1, k2⟩ := addL_spec (l := l) (x := (min x.1 y.1, max x.2 y.2)) (b := b) (g4.weak (by omega)) (by dsimp only; omega) (by dsimp only; omega) (by dsimp only; omega)
        refine ⟨k1, fun p => ?_⟩
        rw [k2 p, has_cons]
        dsimp only
        constructor
        · rintro (h | h)
          · exact .inl (.inr h)
          · by_cases q : x.1 ≤ p ∧ p < x.2
            · exact .inr q
            · exact .inl (.inl (by omega))
        · rintro ((h | h) | h)
          · exact .inr (by omega)
          · exact .inl h
          · exact .inr (by omega)
theorem addL_len : ∀ (l : List Sp) (x : Sp) (put : Bool), (addL x put l).length ≤ l.length + 1
  | [], x, put => by cases put <;> simp [addL]
  | y :: l, x, put => by
    unfold addL
    split
    · rw [List.length_cons, List.length_cons]; have := addL_len l x put; omega
    · split
      · split
        · rw [List.length_cons, List.length_cons]; have := addL_len l x put; omega
        · rename_i c1 c2 c3
          have hp : ∀ (l : List Sp) (x : Sp), (addL x true l).length ≤ l.length := fun l => by
            induction l with
            | nil => intro x; exact Nat.le_refl _
            | cons y l ih =>
              intro x
              unfold addL
              split
              · rw [List.length_cons, List.length_cons]; exact Nat.succ_le_succ (ih x)
              · split
                · rw [if_pos rfl, List.length_cons, List.length_cons]; exact Nat.succ_le_succ (ih x)
                · rw [List.length_cons]; exact Nat.le_succ_of_le (ih _)
          rw [List.length_cons, List.length_cons, List.length_cons]; have := hp l x; omega
      · rw [List.length_cons]; have := addL_len l (min x.1 y.1, max x.2 y.2) put; omega

theorem has_one {c : Prop} {_ : Decidable c} {z : Sp} {p : Int} : hasP (if c then [z] else []) p ↔ c ∧ z.1 ≤ p ∧ p < z.2 := by
  split
  · rename_i h
    rw [has_cons, has_nil]
    exact ⟨fun k => ⟨h, k.resolve_right id⟩, fun k => .inl k.2⟩
  · rename_i h
    rw [has_nil]
    exact ⟨False.elim, fun k => h k.1⟩
/-- The places that are not there. -/
def gapsL (to : Int) : Int → List Sp → List Sp
  | k, [] => if k < to then [(k, to)] else []
  | k, y :: l => (if y.1 > k ∧ k < to then [(k, min y.1 to)] else []) ++ gapsL to y.2 l
theorem gapsL_spec {to : Int} (ht : to ≤ 65536) : ∀ {l : List Sp} {k : Int}, Nrm (k - 1) l → Nrm (k - 1) (gapsL to k l) ∧ ∀ p, hasP (gapsL to k l) p ↔ k ≤ p ∧ p < to ∧ ¬ hasP l p
  | [], k, _ => by
    unfold gapsL
    constructor
    · split
      · exact ⟨by dsimp only; omega, by assumption, ht, trivial⟩
      · trivial
    · intro p
      rw [has_one, has_nil]
      dsimp only
      exact ⟨fun h => ⟨h.2.1, h.2.2, id⟩, fun h => ⟨by omega, h.1, h.2.1⟩⟩
  | y :: l, k, ⟨g1, g2, g3, g4⟩ => by
    obtain ⟨k1, k2⟩ := gapsL_spec ht (l := l) (k := y.2) (g4.weak (by omega))
    have k3 : Nrm y.2 (gapsL to y.2 l) ∨ True := .inr trivial
    unfold gapsL
    constructor
    · split
      · rename_i c
        refine ⟨by dsimp only; omega, by dsimp only; omega, by dsimp only; omega, ?_⟩
        refine k1.weak ?_
        dsimp only; omega
      · exact k1.weak (by omega)
    · intro p
      rw [has_append, has_one, k2 p, has_cons]
      dsimp only
      constructor
      · rintro (h | h)
        · refine ⟨by omega, by omega, ?_⟩
          rintro (q | q)
          · omega
          · have := g4.lo q; omega
        · exact ⟨by omega, h.2.1, fun q => q.elim (fun q => by omega) h.2.2⟩
      · rintro ⟨h1, h2, h3⟩
        by_cases c : p < y.1
        · exact .inl (by omega)
        · refine .inr ⟨?_, h2, fun q => h3 (.inr q)⟩
          by_cases c2 : p < y.2
          · exact (h3 (.inl ⟨by omega, c2⟩)).elim
          · omega
def cntL : List Sp → Int
  | [] => 0
  | y :: l => (y.2 - y.1) + cntL l
end Go.Proofs.YtgbpjbpdpgbngaaGreat
/-
  Spans: the longest runs of places, and how many places there are.
-/
namespace Go.Proofs.YtgbpjbpdpgbngaaGreat
open Go Go.Am

/-- A place more behind runs. -/
def addEnd (r : List Sp) (n : Int) : List Sp :=
  match r.getLast? with
  | some z => if z.2 = n then r.dropLast ++ [(z.1, n + 1)] else r ++ [(n, n + 1)]
  | none => [(n, n + 1)]
def runsL (f : Nat → Bool) : Nat → List Sp
  | 0 => []
  | n + 1 => if f n = true then addEnd (runsL f n) n else runsL f n
theorem addEnd_nil {n : Int} : addEnd [] n = [(n, n + 1)] := rfl
theorem addEnd_snoc {r : List Sp} {z : Sp} {n : Int} : addEnd (r ++ [z]) n = if z.2 = n then r ++ [(z.1, n + 1)] else (r ++ [z]) ++ [(n, n + 1)] := by
  unfold addEnd
  rw [List.getLast?_append]
  simp
theorem snoc_cases {α : Type} (l : List α) : l = [] ∨ ∃ r z, l = r ++ [z] := by
  rcases List.eq_nil_or_concat l with h | ⟨r, z, h⟩
  · exact .inl h
  · exact .inr ⟨r, z, by rw [h]; simp⟩
theorem addEnd_spec {r : List Sp} {n : Int} (hn : 0 ≤ n ∧ n < 65536) (h : Nrm (-1) r) (hb : ∀ y ∈ r, y.2 ≤ n) : Nrm (-1) (addEnd r n) ∧ (∀ y ∈ addEnd r n, y.2 ≤ n + 1) ∧ (∀ p, hasP (addEnd r n) p ↔ hasP r p ∨ p = n) ∧ cntL (addEnd r n) = cntL r + 1 := by
  have cnt_append : ∀ a b : List Sp, cntL (a ++ b) = cntL a + cntL b := fun a b => by
    induction a with
    | nil => show cntL b = 0 + _; omega
    | cons y a ih => show (y.2 - y.1) + cntL (a ++ b) = (y.2 - y.1) + cntL a + _; rw [ih]; omega
  have one : ∀ z : Sp, cntL [z] = z.2 - z.1 := fun z => by show (z.2 - z.1) + 0 = _; omega
  rcases snoc_cases r with rfl | ⟨r, z, rfl⟩
  · rw [addEnd_nil]
    refine ⟨⟨by dsimp only; omega, by dsimp only; omega, by dsimp only; omega, trivial⟩, fun y hy => by rw [List.mem_singleton.1 hy]; exact Int.le_refl _, fun p => ?_, by rw [one]; show n + 1 - n = 0 + 1; omega⟩
    rw [has_cons, has_nil]
    dsimp only
    exact ⟨fun h => .inr (by rcases h with h | h; omega; exact h.elim), fun h => .inl (by rcases h with h | h; exact h.elim; omega)⟩
  · obtain ⟨q1, q2, q3, q4⟩ := h.last
    have hz := hb z (by simp)
    rw [addEnd_snoc]
    by_cases c : z.2 = n
    · rw [if_pos c]
      refine ⟨h.init.snoc q1 q2 (by dsimp only; omega) (by dsimp only; omega), fun y hy => ?_, fun p => ?_, ?_⟩
      · rcases List.mem_append.1 hy with hy | hy
        · have := hb y (List.mem_append_left _ hy); omega
        · rw [List.mem_singleton.1 hy]; exact Int.le_refl _
      · rw [has_append, has_append, has_cons, has_cons, has_nil]
        dsimp only
        constructor
        · rintro (h | h | h)
          · exact .inl (.inl h)
          · by_cases e : p = n
            · exact .inr e
            · exact .inl (.inr (.inl (by omega)))
          · exact h.elim
        · rintro ((h | h | h) | h)
          · exact .inl h
          · exact .inr (.inl (by omega))
          · exact h.elim
          · exact .inr (.inl (by omega))
      · rw [cnt_append, cnt_append, one, one]; dsimp only; omega
    · rw [if_neg c]
      refine ⟨h.snoc (fun y hy => ?_) (by dsimp only; omega) (by dsimp only; omega) (by dsimp only; omega), fun y hy => ?_, fun p => ?_, ?_⟩
      · dsimp only
        rcases List.mem_append.1 hy with hy | hy
        · have := q1 y hy; omega
        · rw [List.mem_singleton.1 hy]; omega
      · rcases List.mem_append.1 hy with hy | hy
        · have := hb y hy; omega
        · rw [List.mem_singleton.1 hy]; exact Int.le_refl _
      · rw [has_append, has_cons, has_nil]
        dsimp only
        constructor
        · rintro (h | h | h)
          · exact .inl h
          · exact .inr (by omega)
          · exact h.elim
        · rintro (h | h)
          · exact .inl h
          · exact .inr (.inl (by omega))
      · rw [cnt_append, one]; dsimp only; omega
theorem runsL_spec (f : Nat → Bool) : ∀ {n : Nat}, n ≤ 65536 → Nrm (-1) (runsL f n) ∧ (∀ y ∈ runsL f n, y.2 ≤ n) ∧ (∀ p, hasP (runsL f n) p ↔ 0 ≤ p ∧ p < n ∧ f p.toNat = true) ∧ cntL (runsL f n) = ((List.range n).countP f : Int)
  | 0, _ => ⟨trivial, nofun, fun p => ⟨fun h => (has_nil.1 h).elim, fun h => by omega⟩, rfl⟩
  | n + 1, h => by
    obtain ⟨h1, h2, h3, h4⟩ := runsL_spec f (n := n) (by omega)
    have hr : (List.range (n + 1)).countP f = (List.range n).countP f + if f n = true then 1 else 0 := by
      rw [List.range_succ, List.countP_append, List.countP_cons, List.countP_nil]; simp
    unfold runsL
    by_cases c : f n = true
    · rw [if_pos c]
      obtain ⟨k1, k2, k3, k4⟩ := addEnd_spec (n := (n : Int)) (by omega) h1 h2
      refine ⟨k1, fun y hy => by have := k2 y hy; omega, fun p => ?_, by rw [k4, h4, hr, if_pos c]; omega⟩
      rw [k3 p, h3 p]
      constructor
      · rintro (q | q)
        · exact ⟨q.1, by omega, q.2.2⟩
        · subst q; exact ⟨by omega, by omega, by rw [Int.toNat_natCast]; exact c⟩
      · rintro ⟨q1, q2, q3⟩
        by_cases e : p = n
        · exact .inr e
        · exact .inl ⟨q1, by omega, q3⟩
    · rw [if_neg c]
      refine ⟨h1, fun y hy => by have := h2 y hy; omega, fun p => ?_, by rw [h4, hr, if_neg c]; omega⟩
      rw [h3 p]
      constructor
      · rintro ⟨q1, q2, q3⟩
        exact ⟨q1, by omega, q3⟩
      · rintro ⟨q1, q2, q3⟩
        refine ⟨q1, ?_, q3⟩
        by_cases e : p = n
        · subst e; rw [Int.toNat_natCast] at q3; exact (c q3).elim
        · omega
/-- Spans and runs of the same places are the same. -/
theorem runs_eq {l : List Sp} {f : Nat → Bool} {n : Nat} (hn : n ≤ 65536) (h : Nrm (-1) l) (hp : ∀ p, hasP l p ↔ 0 ≤ p ∧ p < n ∧ f p.toNat = true) : runsL f n = l := by
  obtain ⟨h1, h2, h3, h4⟩ := runsL_spec f hn
  exact h1.uniq h fun p => (h3 p).trans (hp p).symm
theorem cnt_runs {l : List Sp} {f : Nat → Bool} {n : Nat} (hn : n ≤ 65536) (h : Nrm (-1) l) (hp : ∀ p, hasP l p ↔ 0 ≤ p ∧ p < n ∧ f p.toNat = true) : cntL l = ((List.range n).countP f : Int) := by
  rw [← runs_eq hn h hp]; exact (runsL_spec f hn).2.2.2
end Go.Proofs.YtgbpjbpdpgbngaaGreat
/-
  The right to append, beside whatever else is known of the heap.
-/
namespace Go.Proofs.YtgbpjbpdpgbngaaGreat
open Go Go.Am

theorem sub_none {σ σ' : AHeap} (h : Sub σ σ') {id : Nat} (k : σ id = none) : σ' id = none := by
  cases e : σ' id with
  | none => rfl
  | some o => rw [h _ _ e] at k; cases k
theorem sub_del {σ σb : AHeap} {id : Nat} (h : Sub σ σb) (h1 : σb id = none) : Sub (del σ id) σb := fun j o hj => by
  have hne : j ≠ id := fun e => by subst e; rw [h1] at hj; cases hj
  rw [del_ne _ hne]; exact h _ _ hj
theorem sub_upd {σ σb : AHeap} {id : Nat} (o : AObj) (h : Sub σ σb) (h1 : σb id = none) : Sub (upd σ id o) σb := fun j x hj => by
  have hne : j ≠ id := fun e => by subst e; rw [h1] at hj; cases hj
  rw [upd_ne _ _ hne]; exact h _ _ hj
/-- A token that is there, and is not of the heap below. -/
def TokIn (σ σb : AHeap) (tk : Tok) : Prop := tk = .full ∨ ∃ t, tk = .tip t ∧ σ t = some .tip ∧ σb t = none
theorem TokIn.full (σ σb : AHeap) : TokIn σ σb .full := .inl rfl
theorem TokIn.ne {σ σb : AHeap} {tk : Tok} {id : Nat} (o : AObj) (h : TokIn σ σb tk) (k : ∀ t, tk = .tip t → id ≠ t) : TokIn (upd σ id o) σb tk := by
  rcases h with rfl | ⟨t, rfl, h1, h2⟩
  · exact .inl rfl
  · exact .inr ⟨t, rfl, by rw [upd_ne _ _ (Ne.symm (k t rfl))]; exact h1, h2⟩
theorem TokIn.ne_of {σ σb : AHeap} {tk : Tok} {id : Nat} {o : AObj} (h : TokIn σ σb tk) (k : σ id = some o) (ho : o.isTip = false) : ∀ t, tk = .tip t → id ≠ t := by
  rintro t rfl e
  subst e
  rcases h with h | ⟨t', h0, h1, h2⟩
  · cases h
  · cases h0; rw [h1] at k; cases k; cases ho
/-- Something of the heap below is set. -/
theorem TokIn.set {σ σb : AHeap} {tk : Tok} {id : Nat} {o : AObj} (x : AObj) (h : TokIn σ σb tk) (k : σ id = some o) (ho : o.isTip = false) : TokIn (upd σ id x) σb tk := h.ne x (h.ne_of k ho)
theorem TokIn.ext {σ σ' σb : AHeap} {tk : Tok} (h : TokIn σ σb tk) (k : ∀ t, σ t = some .tip → σ' t = some .tip) : TokIn σ' σb tk := by
  rcases h with rfl | ⟨t, rfl, h1, h2⟩
  · exact .inl rfl
  · exact .inr ⟨t, rfl, k t h1, h2⟩
theorem Owned.tokIn {σ σb σ' : AHeap} {tk : Tok} (hs : Sub σ σb) (h : Owned σ σ' tk) : TokIn σ' σb tk := by
  rcases h with ⟨rfl, rfl⟩ | ⟨t, h0, rfl, rfl⟩
  · exact .inl rfl
  · exact .inr ⟨t, rfl, upd_same _ _ _, sub_none hs h0⟩
theorem aapp_in {σ σb : AHeap} {s bytes : Nat} {xs ys : List AVal} {tk : Tok} {K : AVal → AHeap → Prop} (h : TokIn σ σb tk) (hs : Sub σ σb) (hl : (xs.length + ys.length) * bytes ≤ 140737488355328)
    (k : ∀ t' σ', Ext σ σ' → Sub σ' σb → TokIn σ' σb (.tip t') → K (.slice s (xs ++ ys) (.tip t')) σ') : AApp σ s bytes xs tk ys K := by
  rcases h with rfl | ⟨t, rfl, h1, h2⟩
  · refine aapp_full hl fun t ht => k t _ (Ext.upd_fresh _ ht) (sub_upd _ hs (sub_none hs ht)) (.inr ⟨t, rfl, upd_same _ _ _, sub_none hs ht⟩)
  · refine aapp_tip h1 hl fun t' ht' => ?_
    have hb : σb t' = none := sub_none hs ht'
    refine k t' _ (fun id o ho e => ?_) (sub_upd _ (sub_del hs h2) hb) (.inr ⟨t', rfl, upd_same _ _ _, hb⟩)
    have hne : id ≠ t := fun q => by subst q; rw [h1] at e; cases e; cases ho
    have e2 : del σ t id = some o := by rw [del_ne _ hne]; exact e
    rw [upd_ne]; exact e2
    intro q; subst q; rw [e] at ht'; cases ht'
end Go.Proofs.YtgbpjbpdpgbngaaGreat
/-
  A heap by what is known of it: objects and rights to append that are new, each apart from the others.
-/
namespace Go.Proofs.YtgbpjbpdpgbngaaGreat
open Go Go.Am

inductive HE where
  | o (i : Nat) (x : AObj)
  | t (k : Tok)
def HE.id : HE → Option Nat
  | .o i _ => some i
  | .t (.tip k) => some k
  | .t _ => none
def HE.ok (σ : AHeap) : HE → Prop
  | .o i x => σ i = some x
  | .t .full => True
  | .t (.tip k) => σ k = some .tip
  | .t _ => False
def ids (L : List HE) : List Nat := L.filterMap HE.id
theorem mem_ids {L : List HE} {i : Nat} : i ∈ ids L ↔ ∃ e ∈ L, e.id = some i := List.mem_filterMap
structure Hp (σb : AHeap) (L : List HE) (σ : AHeap) : Prop where
  sub : Sub σ σb
  nd : (ids L).Nodup
  ok : ∀ e ∈ L, e.ok σ
  new : ∀ i ∈ ids L, σb i = none

theorem HE.ok_ne {e : HE} {σ σ' : AHeap} (h : e.ok σ) (k : ∀ j, e.id = some j → σ' j = σ j) : e.ok σ' := by
  cases e with
  | o j y => exact (k j rfl).trans h
  | t q => cases q with
    | none => exact h
    | full => exact h
    | own _ => exact h
    | tip j => exact (k j rfl).trans h
theorem HE.ok_sub {e : HE} {σ σ' : AHeap} (h : e.ok σ) (k : Sub σ' σ) : e.ok σ' := by
  cases e with
  | o j y => exact k _ _ h
  | t q => cases q with
    | none => exact h
    | full => exact h
    | own _ => exact h
    | tip j => exact k _ _ h
theorem HE.live {e : HE} {σ : AHeap} {i : Nat} (h : e.ok σ) (hi : e.id = some i) : σ i ≠ none := by
  cases e with
  | o j y => cases hi; intro e; rw [show σ i = some y from h] at e; cases e
  | t q => cases q with
    | none => cases hi
    | full => cases hi
    | own _ => cases hi
    | tip j => cases hi; intro e; rw [show σ i = some .tip from h] at e; cases e

theorem perm_erase : ∀ {L : List HE} {k : Nat} {e : HE}, L[k]? = some e → L.Perm (e :: L.eraseIdx k)
  | [], _, _, h => by simp at h
  | a :: l, 0, e, h => by simp at h; subst h; exact .refl _
  | a :: l, k + 1, e, h => ((perm_erase (L := l) (by simpa using h)).cons a).trans (.swap ..)
theorem perm_set : ∀ {L : List HE} {k : Nat} {e : HE}, k < L.length → (e :: L.eraseIdx k).Perm (L.set k e)
  | [], _, _, h => by simp at h
  | a :: l, 0, e, h => .refl _
  | a :: l, k + 1, e, h => (List.Perm.swap ..).trans ((perm_set (L := l) (by simpa using h)).cons a)
theorem del_none {σ : AHeap} {i j : Nat} (h : σ j = none) : del σ i j = none := by unfold del; split <;> simp [h]
namespace Hp
variable {σb σ : AHeap} {L : List HE}
theorem nil (σ : AHeap) : Hp σ [] σ := ⟨Sub.refl _, .nil, nofun, nofun⟩
theorem fresh (H : Hp σb L σ) {i : Nat} (h : σ i = none) : i ∉ ids L ∧ σb i = none :=
  ⟨fun hm => let ⟨e, he, hi⟩ := mem_ids.1 hm; HE.live (H.ok e he) hi h, sub_none H.sub h⟩
theorem cons_o (H : Hp σb L σ) {i : Nat} (h : σ i = none) (x : AObj) : Hp σb (.o i x :: L) (upd σ i x) := by
  obtain ⟨h1, h2⟩ := H.fresh h
  refine ⟨sub_upd _ H.sub h2, List.nodup_cons.2 ⟨h1, H.nd⟩, fun e he => ?_, fun j hj => ?_⟩
  · rcases List.mem_cons.1 he with rfl | he
    · exact upd_same _ _ _
    · exact HE.ok_ne (H.ok e he) fun j hj => upd_ne _ _ fun e' => h1 (mem_ids.2 ⟨e, he, e' ▸ hj⟩)
  · rcases List.mem_cons.1 (show j ∈ i :: ids L from hj) with rfl | hj
    · exact h2
    · exact H.new j hj
theorem cons_tip (H : Hp σb L σ) {i : Nat} (h : σ i = none) : Hp σb (.t (.tip i) :: L) (upd σ i .tip) := by
  obtain ⟨h1, h2⟩ := H.fresh h
  refine ⟨sub_upd _ H.sub h2, List.nodup_cons.2 ⟨h1, H.nd⟩, fun e he => ?_, fun j hj => ?_⟩
  · rcases List.mem_cons.1 he with rfl | he
    · exact upd_same _ _ _
    · exact HE.ok_ne (H.ok e he) fun j hj => upd_ne _ _ fun e' => h1 (mem_ids.2 ⟨e, he, e' ▸ hj⟩)
  · rcases List.mem_cons.1 (show j ∈ i :: ids L from hj) with rfl | hj
    · exact h2
    · exact H.new j hj
theorem cons_full (H : Hp σb L σ) : Hp σb (.t .full :: L) σ :=
  ⟨H.sub, H.nd, fun e he => (List.mem_cons.1 he).elim (fun h => by subst h; trivial) (H.ok e), H.new⟩
theorem perm {L' : List HE} (H : Hp σb L σ) (p : L.Perm L') : Hp σb L' σ :=
  ⟨H.sub, (p.filterMap _).nodup_iff.1 H.nd, fun e he => H.ok e (p.mem_iff.2 he), fun i hi => H.new i ((p.filterMap _).mem_iff.2 hi)⟩
theorem tail {e : HE} (H : Hp σb (e :: L) σ) : Hp σb L σ := by
  refine ⟨H.sub, ?_, fun x hx => H.ok x (List.mem_cons_of_mem _ hx), fun i hi => H.new i ?_⟩
  · have := H.nd
    unfold ids at *
    rw [List.filterMap_cons] at this
    split at this
    · exact this
    · exact (List.nodup_cons.1 this).2
  · obtain ⟨x, hx, hi⟩ := mem_ids.1 hi
    exact mem_ids.2 ⟨x, List.mem_cons_of_mem _ hx, hi⟩
theorem front (H : Hp σb L σ) {k : Nat} {e : HE} (hk : L[k]? = some e) : Hp σb (e :: L.eraseIdx k) σ := by
  exact H.perm (perm_erase hk)
theorem back {k : Nat} {e : HE} (hk : k < L.length) (H : Hp σb (e :: L.eraseIdx k) σ) : Hp σb (L.set k e) σ := H.perm (perm_set hk)
theorem get (H : Hp σb L σ) {k i : Nat} {x : AObj} (hk : L[k]? = some (.o i x)) : σ i = some x := H.ok _ (List.mem_of_getElem? hk)
theorem upd_head {i : Nat} {x : AObj} (H : Hp σb (.o i x :: L) σ) (y : AObj) : Hp σb (.o i y :: L) (upd σ i y) := by
  have h1 : i ∉ ids L := (List.nodup_cons.1 (show (i :: ids L).Nodup from H.nd)).1
  have h2 : σb i = none := H.new i (List.mem_cons_self ..)
  refine ⟨sub_upd _ H.sub h2, H.nd, fun e he => ?_, H.new⟩
  rcases List.mem_cons.1 he with rfl | he
  · exact upd_same _ _ _
  · exact HE.ok_ne (H.ok e (List.mem_cons_of_mem _ he)) fun j hj => upd_ne _ _ fun e' => h1 (mem_ids.2 ⟨e, he, e' ▸ hj⟩)
theorem set (H : Hp σb L σ) {k i : Nat} {x : AObj} (hk : L[k]? = some (.o i x)) (y : AObj) : Hp σb (L.set k (.o i y)) (upd σ i y) :=
  back (List.getElem?_eq_some_iff.1 hk).1 ((H.front hk).upd_head y)
theorem more {σ' : AHeap} (H : Hp σb L σ) (s : Sub σ' σ) : Hp σb L σ' := ⟨s.trans H.sub, H.nd, fun e he => HE.ok_sub (H.ok e he) s, H.new⟩
theorem join {M : List HE} {σ' : AHeap} (H : Hp σb L σ) (N : Hp σ M σ') : Hp σb (M ++ L) σ' := by
  refine ⟨N.sub.trans H.sub, ?_, fun e he => ?_, fun i hi => ?_⟩
  · unfold ids; rw [List.filterMap_append]
    refine List.nodup_append.2 ⟨N.nd, H.nd, fun a ha b hb e => ?_⟩
    subst e
    obtain ⟨x, hx, hi⟩ := mem_ids.1 hb
    exact HE.live (H.ok x hx) hi (N.new a ha)
  · rcases List.mem_append.1 he with he | he
    · exact N.ok e he
    · exact HE.ok_sub (H.ok e he) N.sub
  · unfold ids at hi; rw [List.filterMap_append] at hi
    rcases List.mem_append.1 hi with hi | hi
    · exact sub_none H.sub (N.new i hi)
    · exact H.new i hi
theorem ext {M : List HE} {σ' : AHeap} (N : Hp σ M σ') : Ext σ σ' := fun i o _ e => N.sub i o e
theorem owned {σ' : AHeap} {tk : Tok} (H : Hp σb L σ) (h : Owned σ σ' tk) : Hp σb (.t tk :: L) σ' := by
  rcases h with ⟨rfl, rfl⟩ | ⟨t, h0, rfl, rfl⟩
  · exact H.cons_full
  · exact H.cons_tip h0
theorem toOwned {tk : Tok} {σ' : AHeap} (H : Hp σ [.t tk] σ') : ∃ σ2, Owned σ σ2 tk ∧ Sub σ' σ2 := by
  have := H.ok _ (List.mem_cons_self ..)
  cases tk with
  | none => exact this.elim
  | full => exact ⟨σ, .full _, H.sub⟩
  | own _ => exact this.elim
  | tip t => exact ⟨upd σ t .tip, .tip (H.new t (List.mem_cons_self ..)), fun i o e => by
      by_cases h : i = t
      · subst h; rw [upd_same] at e; cases e; exact this
      · rw [upd_ne _ _ h] at e; exact H.sub _ _ e⟩
/-- The first of two lists alone. -/
theorem left {L M : List HE} (H : Hp σb (L ++ M) σ) : Hp σb L σ := by
  refine ⟨H.sub, ?_, fun e he => H.ok e (List.mem_append_left _ he), fun i hi => H.new i ?_⟩
  · have := H.nd
    unfold ids at this ⊢
    rw [List.filterMap_append] at this
    exact (List.nodup_append.1 this).1
  · obtain ⟨x, hx, hi⟩ := mem_ids.1 hi
    exact mem_ids.2 ⟨x, List.mem_append_left _ hx, hi⟩
theorem comm (L M : List HE) (H : Hp σb (L ++ M) σ) : Hp σb (M ++ L) σ := H.perm List.perm_append_comm
/-- An object is given up. -/
theorem del_head {i : Nat} {x : AObj} (H : Hp σb (.o i x :: L) σ) : Hp σb L (del σ i) := by
  have h1 : i ∉ ids L := (List.nodup_cons.1 (show (i :: ids L).Nodup from H.nd)).1
  have h2 : σb i = none := H.new i (List.mem_cons_self ..)
  refine ⟨sub_del H.sub h2, H.tail.nd, fun e he => ?_, H.tail.new⟩
  exact HE.ok_ne (H.ok e (List.mem_cons_of_mem _ he)) fun j hj => del_ne _ fun e' => h1 (mem_ids.2 ⟨e, he, e' ▸ hj⟩)
theorem del_tip {i : Nat} (H : Hp σb (.t (.tip i) :: L) σ) : Hp σb L (del σ i) := by
  have h1 : i ∉ ids L := (List.nodup_cons.1 (show (i :: ids L).Nodup from H.nd)).1
  have h2 : σb i = none := H.new i (List.mem_cons_self ..)
  refine ⟨sub_del H.sub h2, H.tail.nd, fun e he => ?_, H.tail.new⟩
  exact HE.ok_ne (H.ok e (List.mem_cons_of_mem _ he)) fun j hj => del_ne _ fun e' => h1 (mem_ids.2 ⟨e, he, e' ▸ hj⟩)
end Hp

def setLK : List HE → Nat → HE → (List HE → Prop) → Prop
  | _ :: l, 0, x, k => k (x :: l)
  | e :: l, n + 1, x, k => setLK l n x fun l' => k (e :: l')
  | [], _, _, _ => False
theorem setLK_spec : ∀ {L : List HE} {n : Nat} {x : HE} {k : List HE → Prop}, setLK L n x k → n < L.length ∧ k (L.set n x)
  | [], _, _, _, h => h.elim
  | _ :: _, 0, _, _, h => ⟨Nat.zero_lt_succ _, h⟩
  | e :: l, n + 1, x, k, h => let ⟨a, b⟩ := setLK_spec (L := l) h; ⟨Nat.succ_lt_succ a, b⟩
theorem splice_cons {z : AVal} {zs xs : List AVal} {n : Nat} : splice (z :: zs) (n + 1) xs = z :: splice zs n xs := by
  unfold splice; rw [List.take_succ_cons, show n + 1 + xs.length = (n + xs.length) + 1 by omega, List.drop_succ_cons]; rfl
theorem putK_spec : ∀ {cs : List AVal} {off : Nat} {xs : List AVal} {k : List AVal → Prop}, putK cs off xs k → off + xs.length ≤ cs.length ∧ k (splice cs off xs)
  | cs, 0, [], k, h => ⟨Nat.zero_le _, by unfold splice; simpa [putK] using h⟩
  | z :: zs, 0, x :: xs, k, h => by
    have h : putK zs 0 xs fun l => k (x :: l) := h
    obtain ⟨a, b⟩ := putK_spec h
    refine ⟨by simp only [List.length_cons] at *; omega, ?_⟩
    have e : splice (z :: zs) 0 (x :: xs) = x :: splice zs 0 xs := by unfold splice; simp
    rw [e]; exact b
  | z :: zs, n + 1, xs, k, h => by
    have h : putK zs n xs fun l => k (z :: l) := by cases xs <;> exact h
    obtain ⟨a, b⟩ := putK_spec h
    refine ⟨by simp only [List.length_cons] at *; omega, ?_⟩
    rw [splice_cons]; exact b
  | [], 0, x :: xs, k, h => by exact (show False from h).elim
  | [], n + 1, xs, k, h => by cases xs <;> exact (show False from h).elim
def dtK : List AVal → Nat → Nat → (List AVal → Prop) → Prop
  | _ :: l, o + 1, n, k => dtK l o n k
  | x :: l, 0, n + 1, k => dtK l 0 n fun m => k (x :: m)
  | _, 0, 0, k => k []
  | [], _ + 1, _, _ => False
  | [], 0, _ + 1, _ => False
theorem dtK_spec : ∀ {cs : List AVal} {off n : Nat} {k : List AVal → Prop}, dtK cs off n k → off + n ≤ cs.length ∧ k ((cs.drop off).take n)
  | c :: l, o + 1, n, k, h => by
    have h : dtK l o n k := h
    obtain ⟨a, b⟩ := dtK_spec h
    exact ⟨by simp only [List.length_cons]; omega, by rw [List.drop_succ_cons]; exact b⟩
  | x :: l, 0, n + 1, k, h => by
    have h : dtK l 0 n fun m => k (x :: m) := h
    obtain ⟨a, b⟩ := dtK_spec h
    exact ⟨by simp only [List.length_cons]; omega, by simpa using b⟩
  | c :: l, 0, 0, k, h => ⟨by simp, by simpa [dtK] using h⟩
  | [], 0, 0, k, h => ⟨by simp, by simpa [dtK] using h⟩
  | [], _ + 1, _, _, h => (show False from h).elim
  | [], 0, _ + 1, _, h => (show False from h).elim

theorem acellA {cs : List AVal} {off n : Nat} {K : AVal → Prop} (h : dtK cs off n fun l => K (.agg l)) : ACell cs off (some n) K := let ⟨a, b⟩ := dtK_spec h; acells a rfl b
/-- Where an entry stands in a list. -/
inductive AtK : List HE → Nat → HE → Prop
  | h {e : HE} {l : List HE} : AtK (e :: l) 0 e
  | t {e d : HE} {l : List HE} {k : Nat} : AtK l k e → AtK (d :: l) (k + 1) e
theorem AtK.get {L : List HE} {k : Nat} {e : HE} (h : AtK L k e) : L[k]? = some e := by
  induction h with
  | h => rfl
  | t _ ih => rw [List.getElem?_cons_succ]; exact ih
section ops
variable {σb σ : AHeap} {L : List HE}
theorem hnew (H : Hp σb L σ) {xs : List AVal} {K : Nat → AHeap → Prop} (hc : xs.all AVal.isCell = true) (h : ∀ i σ', Hp σb (.o i (.cells xs) :: L) σ' → K i σ') : ANew σ xs K :=
  anew hc fun i hi => h i _ (H.cons_o hi _)
theorem hnewmap (H : Hp σb L σ) {K : Nat → AHeap → Prop} (h : ∀ i σ', Hp σb (.o i (.map []) :: L) σ' → K i σ') : ANewMap σ K :=
  ⟨fun i hi => h i _ (H.cons_o hi _)⟩
theorem hload (H : Hp σb L σ) {k i off : Nat} {cs : List AVal} {x : AVal} {K : AVal → Prop} (hk : L[k]? = some (.o i (.cells cs))) (hx : cs[off]? = some x) (h : K x) : ALoad σ i off none K :=
  aload (H.get hk) hx h
theorem hloadA (H : Hp σb L σ) {k i off n : Nat} {cs : List AVal} {K : AVal → Prop} (hk : L[k]? = some (.o i (.cells cs))) (h : dtK cs off n fun l => K (.agg l)) : ALoad σ i off (some n) K :=
  let ⟨a, b⟩ := dtK_spec h; aloads (H.get hk) a rfl b
theorem hstore (H : Hp σb L σ) {k i off : Nat} {cs xs : List AVal} {K : AHeap → Prop} (hk : L[k]? = some (.o i (.cells cs))) (hc : xs.all AVal.isCell = true)
    (h : putK cs off xs fun l => setLK L k (.o i (.cells l)) fun L' => ∀ σ', Hp σb L' σ' → K σ') : AStore σ i off xs K :=
  let ⟨a, b⟩ := putK_spec h; let ⟨_, d⟩ := setLK_spec b; astore (H.get hk) a hc rfl (d _ (H.set hk _))
theorem hloadB {σ0 : AHeap} {L : List HE} (H : Hp σ0 L σ) {i off : Nat} {cs : List AVal} {x : AVal} {K : AVal → Prop} (b : σ0 i = some (.cells cs)) (hx : cs[off]? = some x) (h : K x) : ALoad σ i off none K :=
  aload (H.sub _ _ b) hx h
theorem hloadAB {σ0 : AHeap} {L : List HE} (H : Hp σ0 L σ) {i off n : Nat} {cs : List AVal} {K : AVal → Prop} (b : σ0 i = some (.cells cs)) (h : dtK cs off n fun l => K (.agg l)) : ALoad σ i off (some n) K :=
  let ⟨a, c⟩ := dtK_spec h; aloads (H.sub _ _ b) a rfl c
theorem hlookB {σ0 : AHeap} {L : List HE} (H : Hp σ0 L σ) {i : Nat} {es : List (Int × AVal)} {n : Int} {zero : AVal} {K : AVal → Prop} (b : σ0 i = some (.map es)) (h : K (((es.find? fun e => e.1 == n).map (·.2)).getD zero)) : ALook σ i n zero K :=
  ⟨es, H.sub _ _ b, h⟩
theorem hlook (H : Hp σb L σ) {k i : Nat} {es : List (Int × AVal)} {n : Int} {zero : AVal} {K : AVal → Prop} (hk : L[k]? = some (.o i (.map es))) (h : K (((es.find? fun e => e.1 == n).map (·.2)).getD zero)) : ALook σ i n zero K :=
  ⟨es, H.get hk, h⟩
theorem hmset (H : Hp σb L σ) {k i : Nat} {es : List (Int × AVal)} {n : Int} {x : AVal} {K : AHeap → Prop} (hk : L[k]? = some (.o i (.map es))) (hx : x.isCell = true)
    (h : setLK L k (.o i (.map (mapSet es n x))) fun L' => ∀ σ', Hp σb L' σ' → K σ') : AMset σ i n x K :=
  let ⟨_, d⟩ := setLK_spec h; ⟨es, H.get hk, hx, d _ (H.set hk _)⟩
theorem hmdel (H : Hp σb L σ) {k i : Nat} {es : List (Int × AVal)} {n : Int} {K : AHeap → Prop} (hk : L[k]? = some (.o i (.map es)))
    (h : setLK L k (.o i (.map (mapDel es n))) fun L' => ∀ σ', Hp σb L' σ' → K σ') : AMdel σ i n K :=
  let ⟨_, d⟩ := setLK_spec h; ⟨es, H.get hk, d _ (H.set hk _)⟩
theorem happ0 {s bytes : Nat} {xs ys : List AVal} {tk : Tok} {K : AVal → AHeap → Prop} (H : Hp σb (.t tk :: L) σ) (hl : (xs.length + ys.length) * bytes ≤ 140737488355328)
    (h : ∀ tk' σ', Hp σb (.t tk' :: L) σ' → K (.slice s (xs ++ ys) tk') σ') : AApp σ s bytes xs tk ys K := by
  have h0 := H.ok _ (List.mem_cons_self ..)
  cases tk with
  | none => exact h0.elim
  | own _ => exact h0.elim
  | full => exact aapp_full hl fun t ht => h _ _ (H.tail.cons_tip ht)
  | tip t =>
    refine aapp_tip h0 hl fun t' ht' => h _ _ ?_
    exact H.del_tip.cons_tip (del_none ht')
theorem happ {k : Nat} {s bytes : Nat} {xs ys : List AVal} {tk : Tok} {K : AVal → AHeap → Prop} (H : Hp σb L σ) (hk : L[k]? = some (.t tk)) (hl : (xs.length + ys.length) * bytes ≤ 140737488355328)
    (h : ∀ tk', setLK L k (.t tk') fun L' => ∀ σ', Hp σb L' σ' → K (.slice s (xs ++ ys) tk') σ') : AApp σ s bytes xs tk ys K :=
  happ0 (H.front hk) hl fun tk' σ' H' => (setLK_spec (h tk')).2 σ' (H'.back (List.getElem?_eq_some_iff.1 hk).1)
/-- An append to a slice that no right is known of yet but is full. -/
theorem happF {s bytes : Nat} {xs ys : List AVal} {K : AVal → AHeap → Prop} (H : Hp σb L σ) (hl : (xs.length + ys.length) * bytes ≤ 140737488355328)
    (h : ∀ tk' σ', Hp σb (.t tk' :: L) σ' → K (.slice s (xs ++ ys) tk') σ') : AApp σ s bytes xs .full ys K := happ0 H.cons_full hl h
theorem happnew (H : Hp σb L σ) {s bytes : Nat} {ys : List AVal} {K : AVal → AHeap → Prop} (hy : ys ≠ []) (hl : ys.length * bytes ≤ 140737488355328) (ho : ys.all (okElem s) = true)
    (h : ∀ r σ', Hp σb (.o r (.cells (ys.flatMap AVal.cells)) :: L) σ' → K (.ms r s 0 ys.length) σ') : AAppNew σ s bytes [] .full ys K :=
  aappnew hy hl ho fun r hr => h r _ (H.cons_o hr _)
theorem happm (H : Hp σb L σ) {k r s len bytes : Nat} {ys cs : List AVal} {K : AVal → AHeap → Prop} (hk : L[k]? = some (.o r (.cells cs))) (hc : len * s = cs.length) (hl : (len + ys.length) * bytes ≤ 140737488355328) (ho : ys.all (okElem s) = true)
    (h : ∀ r', setLK L k (.o r' (.cells (cs ++ ys.flatMap AVal.cells))) fun L' => ∀ σ', Hp σb L' σ' → K (.ms r' s 0 (len + ys.length)) σ') : AAppM σ r s 0 len bytes ys K := by
  refine aappm (H.get hk) hc hl ho fun r' hr' => (setLK_spec (h r')).2 _ ?_
  refine Hp.back (List.getElem?_eq_some_iff.1 hk).1 ?_
  exact ((H.front hk).del_head).cons_o (del_none hr') _
theorem zL (H : Hp σb L σ) {k i off : Nat} {cs : List AVal} {x : AVal} {K : AVal → Prop} (hk : AtK L k (.o i (.cells cs))) (hx : cs[off]? = some x) (h : K x) : ALoad σ i off none K := hload H hk.get hx h
theorem zA (H : Hp σb L σ) {k i off n : Nat} {cs : List AVal} {K : AVal → Prop} (hk : AtK L k (.o i (.cells cs))) (h : dtK cs off n fun l => K (.agg l)) : ALoad σ i off (some n) K := hloadA H hk.get h
theorem zS (H : Hp σb L σ) {k i off : Nat} {cs xs : List AVal} {K : AHeap → Prop} (hk : AtK L k (.o i (.cells cs))) (hc : xs.all AVal.isCell = true)
    (h : putK cs off xs fun l => setLK L k (.o i (.cells l)) fun L' => ∀ σ', Hp σb L' σ' → K σ') : AStore σ i off xs K := hstore H hk.get hc h
theorem zB {σ0 : AHeap} {L : List HE} (H : Hp σ0 L σ) {i off : Nat} {cs : List AVal} {x : AVal} {K : AVal → Prop} (b : σ0 i = some (.cells cs)) (hx : cs[off]? = some x) (h : K x) : ALoad σ i off none K := hloadB H b hx h
theorem zC {σ0 : AHeap} {L : List HE} (H : Hp σ0 L σ) {i off n : Nat} {cs : List AVal} {K : AVal → Prop} (b : σ0 i = some (.cells cs)) (h : dtK cs off n fun l => K (.agg l)) : ALoad σ i off (some n) K := hloadAB H b h
theorem zMs (H : Hp σb L σ) {k i : Nat} {es : List (Int × AVal)} {n : Int} {x : AVal} {K : AHeap → Prop} (hk : AtK L k (.o i (.map es))) (hx : x.isCell = true)
    (h : setLK L k (.o i (.map (mapSet es n x))) fun L' => ∀ σ', Hp σb L' σ' → K σ') : AMset σ i n x K := hmset H hk.get hx h
theorem zMd (H : Hp σb L σ) {k i : Nat} {es : List (Int × AVal)} {n : Int} {K : AHeap → Prop} (hk : AtK L k (.o i (.map es)))
    (h : setLK L k (.o i (.map (mapDel es n))) fun L' => ∀ σ', Hp σb L' σ' → K σ') : AMdel σ i n K := hmdel H hk.get h
theorem zP {k : Nat} {s bytes : Nat} {xs ys : List AVal} {tk : Tok} {K : AVal → AHeap → Prop} (H : Hp σb L σ) (hk : AtK L k (.t tk)) (hl : (xs.length + ys.length) * bytes ≤ 140737488355328)
    (h : ∀ tk', setLK L k (.t tk') fun L' => ∀ σ', Hp σb L' σ' → K (.slice s (xs ++ ys) tk') σ') : AApp σ s bytes xs tk ys K := happ H hk.get hl h
theorem zR {cs : List AVal} {off : Nat} {x : AVal} {K : AVal → Prop} (hx : cs[off]? = some x) (h : K x) : ACell cs off none K := acell hx h
end ops
end Go.Proofs.YtgbpjbpdpgbngaaGreat
/-
  Ways that meet again at a loop.
-/
namespace Go.Proofs.YtgbpjbpdpgbngaaGreat
open Go Go.Am
theorem via_loop {G : Prop} {b : ICode} {Q : Exit → Env → AHeap → Prop} (K : ICode → (Exit → Env → AHeap → Prop) → Prop) (f : (Unit → K b Q) → G) (k : K b Q) : G := f fun _ => k
theorem aloop_from {P : Program} {C : Cfg} {b : ICode} {env env1 : Env} {σ : AHeap} {Q : Exit → Env → AHeap → Prop} (hle : EnvLe env env1) (h : ALoop P C b env1 σ Q) : ALoop P C b env σ Q := by
  rw [ALoop_def] at h ⊢
  intro c hc κ a w hS
  exact h c hc κ a w (hS.weaken hle (Sub.refl _))
end Go.Proofs.YtgbpjbpdpgbngaaGreat
/-
  Spans: what the set's functions tell and change.
-/
namespace Go.Proofs.YtgbpjbpdpgbngaaGreat
open Go Go.Am

abbrev spV (x : Sp) : AVal := .agg [i64v x.1, i64v x.2]
abbrev spL (t : Tok) (l : List Sp) : AVal := .slice 2 (l.map spV) t
theorem get_sp {l : List Sp} {i : Nat} (h : i < l.length) : (l.map spV)[((i : Nat) : Int).toNat]? = some (spV l[i]) := by
  rw [Int.toNat_natCast, List.getElem?_map, List.getElem?_eq_getElem h]; rfl
theorem sp_snoc (l : List Sp) (x : Sp) : l.map spV ++ [spV x] = (l ++ [x]).map spV := by rw [List.map_append]; rfl
def spCode (l : List Sp) : Int := if l.length > 2048 then 5 else 0
def addC (x : Sp) (l : List Sp) : Int := if spRight x = true then spCode (addL x false l) else 1
def addS (x : Sp) (l : List Sp) : List Sp := if addC x l = 0 then addL x false l else l
def hasS (x : Sp) (l : List Sp) : Bool := spRight x && l.any fun y => decide (y.1 ≤ x.1 ∧ x.2 ≤ y.2)
def tchS (x : Sp) (l : List Sp) : Bool := spRight x && l.any fun y => decide (y.1 < x.2 ∧ x.1 < y.2)

theorem sRight (x : Sp) (σ : AHeap) : ACalls Tryz.prog i_spans_Right [spV x] σ fun v σ' => v = boolv (spRight x) ∧ σ' = σ := by
  obtain ⟨a, b⟩ := x
  refine k_spans_Right rfl ?_
  have H := Hp.nil σ
  (refine wX ?_)
  refine hnew H rfl ?_
  clear H
  intro i τ H
  (refine wX ?_)
  (repeat (((apply zL H; (· repeat first | exact .h | apply AtK.t); (· rfl))); (refine wX ?_)))
  by_cases h1 : 0 ≤ a
  · by_cases h2 : a < b
    · (repeat ((first | refine zY (by omega) ?_ | (apply zL H; (· repeat first | exact .h | apply AtK.t); (· rfl))); (refine wX ?_)))
      exact aret (VLe.refl _) H.sub ⟨congrArg boolv (dec_congr (by dsimp only; omega)), rfl⟩
    · (repeat ((first | refine zY (by omega) ?_ | refine zN (by omega) ?_ | (apply zL H; (· repeat first | exact .h | apply AtK.t); (· rfl))); (refine wX ?_)))
      exact aret (VLe.refl _) H.sub ⟨congrArg boolv (decide_eq_false (by dsimp only; omega)).symm, rfl⟩
  · (repeat ((refine zN (by omega) ?_); (refine wX ?_)))
    exact aret (VLe.refl _) H.sub ⟨congrArg boolv (decide_eq_false (by dsimp only; omega)).symm, rfl⟩
section
variable {σb σ : AHeap} {is : Nat} {l : List Sp} {tk : Tok} {F : List HE}
theorem sAsk (x : Sp) (σ : AHeap) : ACalls Tryz.prog i_spans_Set_ask [.ptr is 0, spV x] σ fun v σ' => v = i64v (if spRight x = true then 0 else 1) ∧ σ' = σ := by
  refine k_spans_Set_ask rfl ?_
  have H := Hp.nil σ
  (refine wX ?_)
  refine hnew H rfl ?_
  clear H
  intro i τ H
  (refine wX ?_)
  (repeat (((apply zA H; (· repeat first | exact .h | apply AtK.t))); (refine wX ?_)))
  refine acall (sRight x τ) ?_
  rintro _ σ_ ⟨rfl, e_⟩
  obtain rfl := e_.symm
  refine ⟨?_, Ext.refl _⟩
  (refine wX ?_)
  cases spRight x
  · (refine wX ?_)
    exact aret (VLe.refl _) H.sub ⟨rfl, rfl⟩
  · (refine wX ?_)
    exact aret (VLe.refl _) H.sub ⟨rfl, rfl⟩
theorem sKeep (H : Hp σb (.o is (.cells [spL tk l]) :: F) σ) (m : List Sp) (u : Tok) (hl : m.length ≤ 1000000) : ACalls Tryz.prog i_spans_Set_keep [.ptr is 0, spL u m] σ fun v σ' => v = i64v (spCode m) ∧
    ∃ u', Hp σb (.o is (.cells [spL u' (if spCode m = 0 then m else l)]) :: F) σ' := by
  refine k_spans_Set_keep rfl ?_
  (refine wX ?_)
  (repeat ((rw [List.length_map]); (refine wX ?_)))
  unfold spCode
  by_cases h : m.length > 2048
  · rw [if_pos h]
    (repeat ((refine zY (by omega) ?_); (refine wX ?_)))
    exact aret (VLe.refl _) (Sub.refl _) ⟨rfl, tk, H⟩
  · rw [if_neg h]
    (repeat ((first | refine zN (by omega) ?_ | (apply zS H; (· repeat first | exact .h | apply AtK.t); (· rfl); (conv => whnf); clear H; intro τ H)); (refine wX ?_)))
    exact aret (VLe.refl _) (Sub.refl _) ⟨rfl, u, H⟩
theorem addL_cons {x y : Sp} {put : Bool} {l : List Sp} : addL x put (y :: l) = if y.2 < x.1 then y :: addL x put l else if y.1 > x.2 then (if put = true then y :: addL x put l else x :: y :: addL x true l) else addL (min x.1 y.1, max x.2 y.2) put l := rfl
set_option maxRecDepth 20000 in
theorem sAdd (H : Hp σb (.o is (.cells [spL tk l]) :: F) σ) (x : Sp) (hl : l.length ≤ 100000) : ACalls Tryz.prog i_spans_Set_Add [.ptr is 0, spV x] σ fun v σ' => v = i64v (addC x l) ∧
    ∃ u, Hp σb (.o is (.cells [spL u (addS x l)]) :: F) σ' := by
  obtain ⟨xa, xb⟩ := x
  refine k_spans_Set_Add rfl ?_
  (refine wX ?_)
  refine hnew H rfl ?_
  clear H
  intro ix τ H
  (refine wX ?_)
  replace H : Hp σb (.o ix (.cells [i64v xa, i64v xb]) :: .o is (.cells [spL tk l]) :: F) τ := H
  refine ascope' (α := Nat × List Sp × Tok × Bool × Sp × AHeap) (fun y => [(s7, i64v y.1), (s6, spL y.2.2.1 y.2.1), (s8, boolv y.2.2.2.1)]) (fun y => y.2.2.2.2.2) (fun _ => 0)
    (fun y => y.1 ≤ l.length ∧ y.2.1.length ≤ 2 * y.1 ∧ spRight (xa, xb) = true ∧ y.2.1 ++ addL y.2.2.2.2.1 y.2.2.2.1 (l.drop y.1) = addL (xa, xb) false l ∧
      Hp σb (.t y.2.2.1 :: .o ix (.cells [i64v y.2.2.2.2.1.1, i64v y.2.2.2.2.1.2]) :: .o is (.cells [spL tk l]) :: F) y.2.2.2.2.2) (fun y => l.length - y.1) ?_ ?_
  · (refine wX ?_)
    intro hlab
    (refine wX ?_)
    (repeat (((apply zA H; (· repeat first | exact .h | apply AtK.t))); (refine wX ?_)))
    refine acall (sAsk (is := is) (xa, xb) τ) ?_
    rintro _ σ_ ⟨rfl, e_⟩
    obtain rfl := e_.symm
    refine ⟨?_, Ext.refl _⟩
    (refine wX ?_)
    by_cases hr : spRight (xa, xb) = true
    rotate_left
    · rw [if_neg hr]
      (refine wX ?_)
      refine aret (VLe.refl _) (Sub.refl _) ⟨by unfold addC; rw [if_neg hr], tk, ?_⟩
      unfold addS addC; rw [if_neg hr]
      exact H.tail
    · rw [if_pos hr]
      (refine wX ?_)
      refine hlab _ (fun _ _ _ h => h) _ _ _ _ ⟨(0, [], .full, false, (xa, xb), τ), rfl, ⟨Nat.zero_le _, Nat.zero_le _, hr, by rw [List.drop_zero]; rfl, H.cons_full⟩, rfl, Sub.refl _, ?_⟩
      (refine wX ?_)
      exact elX
  clear H
  rintro ⟨i, out, tk1, put, ⟨a, b⟩, τ⟩ ⟨hi, ho, hr, he, H⟩
  dsimp only at hi ho hr he H
  refine ⟨_, rfl, ?_⟩
  dsimp only
  (refine wX ?_)
  intro hlab
  (refine wX ?_)
  (repeat ((first | (apply zL H; (· repeat first | exact .h | apply AtK.t); (· rfl)) | rw [List.length_map]); (refine wX ?_)))
  by_cases h : i < l.length
  · rw [List.drop_eq_getElem_cons h] at he
    (repeat ((first | refine zY (by omega) ?_ | (apply zL H; (· repeat first | exact .h | apply AtK.t); (· rfl))); (refine wX ?_)))
    refine aget (by omega) (get_sp h) ?_
    generalize l[i] = y at *
    obtain ⟨ya, yb⟩ := y
    (refine wX ?_)
    (repeat ((refine acellA ?_); (refine wX ?_)))
    refine hnew H rfl ?_
    clear H
    intro iy τ H
    (refine wX ?_)
    (repeat ((first | (apply zL H; (· repeat first | exact .h | apply AtK.t); (· rfl)) | (apply zS H; (· repeat first | exact .h | apply AtK.t); (· rfl); (conv => whnf); clear H; intro τ H)); (refine wX ?_)))
    rw [addL_cons] at he
    dsimp only at he
    by_cases c1 : yb < a
    · rw [if_pos c1] at he
      (repeat ((first | refine zY (by omega) ?_ | (apply zA H; (· repeat first | exact .h | apply AtK.t))); (refine wX ?_)))
      apply zP H
      · (repeat first | exact .h | apply AtK.t)
      · exact (by rw [List.length_map]; show (_ + 1) * 16 ≤ _; omega)
      intro tk2
      (conv => whnf)
      clear H
      intro τ H
      (refine wX ?_)
      rw [show [AVal.agg [i64v ya, i64v yb]] = [spV (ya, yb)] from rfl, sp_snoc]
      (repeat ((refine zI (by omega) ?_); (refine wX ?_)))
      refine ⟨(i + 1, out ++ [(ya, yb)], tk2, put, (a, b), τ), rfl, ⟨h, by dsimp only; rw [List.length_append, List.length_singleton]; omega, hr, by dsimp only; rw [← he, List.append_assoc]; rfl, H.tail⟩, by dsimp only; omega, Sub.refl _, ?_⟩
      (refine wX ?_)
      exact elX
    rw [if_neg c1] at he
    (repeat ((first | refine zN (by omega) ?_ | (apply zL H; (· repeat first | exact .h | apply AtK.t); (· rfl))); (refine wX ?_)))
    by_cases c2 : ya > b
    · rw [if_pos c2] at he
      (repeat ((refine zY (by omega) ?_); (refine wX ?_)))
      cases put
      · rw [if_neg (by decide)] at he
        (refine wX ?_)
        (repeat (((apply zA H; (· repeat first | exact .h | apply AtK.t))); (refine wX ?_)))
        apply zP H
        · (repeat first | exact .h | apply AtK.t)
        · exact (by rw [List.length_map]; show (_ + 1) * 16 ≤ _; omega)
        intro tk2
        (conv => whnf)
        clear H
        intro τ H
        (refine wX ?_)
        rw [show [AVal.agg [i64v a, i64v b]] = [spV (a, b)] from rfl, sp_snoc]
        (repeat (((apply zA H; (· repeat first | exact .h | apply AtK.t))); (refine wX ?_)))
        apply zP H
        · (repeat first | exact .h | apply AtK.t)
        · exact (by rw [List.length_map, List.length_append, List.length_singleton]; show (_ + 1) * 16 ≤ _; omega)
        intro tk3
        (conv => whnf)
        clear H
        intro τ H
        (refine wX ?_)
        rw [show [AVal.agg [i64v ya, i64v yb]] = [spV (ya, yb)] from rfl, sp_snoc]
        (repeat ((refine zI (by omega) ?_); (refine wX ?_)))
        refine ⟨(i + 1, out ++ [(a, b)] ++ [(ya, yb)], tk3, true, (a, b), τ), rfl, ⟨h, by dsimp only; rw [List.length_append, List.length_append, List.length_singleton]; simp only [List.length_singleton]; omega, hr, by dsimp only; rw [← he, List.append_assoc, List.append_assoc]; rfl, H.tail⟩, by dsimp only; omega, Sub.refl _, ?_⟩
        (refine wX ?_)
        exact elX
      · rw [if_pos rfl] at he
        (refine wX ?_)
        (repeat (((apply zA H; (· repeat first | exact .h | apply AtK.t))); (refine wX ?_)))
        apply zP H
        · (repeat first | exact .h | apply AtK.t)
        · exact (by rw [List.length_map]; show (_ + 1) * 16 ≤ _; omega)
        intro tk2
        (conv => whnf)
        clear H
        intro τ H
        (refine wX ?_)
        rw [show [AVal.agg [i64v ya, i64v yb]] = [spV (ya, yb)] from rfl, sp_snoc]
        (repeat ((refine zI (by omega) ?_); (refine wX ?_)))
        refine ⟨(i + 1, out ++ [(ya, yb)], tk2, true, (a, b), τ), rfl, ⟨h, by dsimp only; rw [List.length_append, List.length_singleton]; omega, hr, by dsimp only; rw [← he, List.append_assoc]; rfl, H.tail⟩, by dsimp only; omega, Sub.refl _, ?_⟩
        (refine wX ?_)
        exact elX
    · rw [if_neg c2] at he
      (repeat ((first | refine zI (by omega) ?_ | refine zN (by omega) ?_ | refine amin ?_ | refine amax ?_ | (apply zL H; (· repeat first | exact .h | apply AtK.t); (· rfl)) | (apply zS H; (· repeat first | exact .h | apply AtK.t); (· rfl); (conv => whnf); clear H; intro τ H)); (refine wX ?_)))
      refine ⟨(i + 1, out, tk1, put, (min a ya, max b yb), τ), rfl, ⟨h, by dsimp only; omega, hr, by dsimp only; exact he, H.tail⟩, by dsimp only; omega, Sub.refl _, ?_⟩
      (refine wX ?_)
      exact elX
  · rw [List.drop_eq_nil_of_le (by omega)] at he
    (repeat ((refine zN (by omega) ?_); (refine wX ?_)))
    have hC : addC (xa, xb) l = spCode (addL (xa, xb) false l) := by unfold addC; rw [if_pos hr]
    have hS : addS (xa, xb) l = if spCode (addL (xa, xb) false l) = 0 then addL (xa, xb) false l else l := by unfold addS; rw [hC]
    rw [hC, hS, ← he]
    cases put
    · (refine wX ?_)
      (repeat (((apply zA H; (· repeat first | exact .h | apply AtK.t))); (refine wX ?_)))
      apply zP H
      · (repeat first | exact .h | apply AtK.t)
      · exact (by rw [List.length_map]; show (_ + 1) * 16 ≤ _; omega)
      intro tk2
      (conv => whnf)
      clear H
      intro τ H
      (refine wX ?_)
      rw [show [AVal.agg [i64v a, i64v b]] = [spV (a, b)] from rfl, sp_snoc]
      have H2 := H.tail.tail
      refine acall (sKeep H2 (out ++ [(a, b)]) tk2 (by rw [List.length_append, List.length_singleton]; omega)) ?_
      clear H H2
      rintro _ τ ⟨rfl, u, H⟩
      (refine wX ?_)
      exact aret (VLe.refl _) (Sub.refl _) ⟨rfl, u, H⟩
    · (refine wX ?_)
      have H2 := H.tail.tail
      refine acall (sKeep H2 out tk1 (by omega)) ?_
      clear H H2
      rintro _ τ ⟨rfl, u, H⟩
      (refine wX ?_)
      have e : out ++ addL (a, b) true [] = out := List.append_nil _
      rw [e]
      exact aret (VLe.refl _) (Sub.refl _) ⟨rfl, u, H⟩
end
end Go.Proofs.YtgbpjbpdpgbngaaGreat
/-
  Spans: what a set tells.
-/
namespace Go.Proofs.YtgbpjbpdpgbngaaGreat
set_option maxRecDepth 20000
open Go Go.Am

theorem sClone (l : List Sp) (t : Tok) (σ : AHeap) (hl : l.length ≤ 1000000) : ACalls Tryz.prog i_spans_Span [spL t l] σ fun v σ' => ∃ tk, Owned σ σ' tk ∧ v = spL tk l := by
  refine k_spans_Span rfl ?_
  (conv => whnf)
  refine anil ?_ ?_
  · (conv => whnf)
    refine abr_false rfl ?_
    (conv => whnf)
    refine aapp_full (by simp; omega) fun t' ht' => ?_
    (conv => whnf)
    exact aret_same ⟨_, .tip ht', rfl⟩
  · intro h0
    (conv => whnf)
    refine abr_true rfl ?_
    (conv => whnf)
    have : l = [] := by simpa using h0
    subst this
    exact aret_same ⟨_, .full σ, rfl⟩
theorem sSpans {σ : AHeap} {is : Nat} {l : List Sp} {tk : Tok} (b1 : σ is = some (.cells [spL tk l])) (hl : l.length ≤ 1000000) : ACalls Tryz.prog i_spans_Set_Spans [.ptr is 0] σ fun v σ' => ∃ u, Owned σ σ' u ∧ v = spL u l := by
  refine k_spans_Set_Spans rfl ?_
  have H := Hp.nil σ
  (refine wX ?_)
  (repeat ((refine zB H b1 rfl ?_); (refine wX ?_)))
  refine acall (sClone l tk σ hl) ?_
  rintro _ τ ⟨u, hu, rfl⟩
  refine ⟨?_, hu.ext⟩
  (refine wX ?_)
  exact aret (VLe.refl _) (Sub.refl _) ⟨u, hu, rfl⟩
theorem sIndex {g ix : Nat} {b : AObj} {p : Sp → Bool} (hg : callB Tryz.prog g = true) (hc : ∀ y σ, σ ix = some b → ACalls Tryz.prog g [spV y, .ptr ix 0] σ fun v σ' => v = boolv (p y) ∧ σ' = σ) (l : List Sp) (t : Tok) (σ : AHeap) (hs : σ ix = some b) (hl : l.length ≤ 1000000) :
    ACalls Tryz.prog i_slices_IndexFunc_spans_Span [spL t l, .func g [] [.ptr ix 0]] σ fun v σ' => (∃ n : Int, v = i64v n ∧ (n ≥ 0 ↔ l.any p = true)) ∧ σ' = σ := by
  refine k_slices_IndexFunc_spans_Span rfl ?_
  (refine wX ?_)
  refine aloop (α := Nat) (fun i => [(s8, i64v i)]) (fun _ => σ) (fun i => i ≤ l.length ∧ (l.take i).any p = false) (fun i => l.length - i) 0 ⟨Nat.zero_le _, rfl⟩ (Sub.refl _) ?_ ?_
  · (refine wX ?_)
    exact elX
  rintro i ⟨hi, hw⟩
  by_cases h : i < l.length
  · (refine wX ?_)
    (repeat ((first | refine abr_yes (by omega) ?_ | rw [List.length_map]); (refine wX ?_)))
    refine aget (by omega) (get_sp h) ?_
    (refine wX ?_)
    refine acellA ?_
    (refine wX ?_)
    refine ⟨hg, ?_⟩
    (refine wX ?_)
    refine acall (hc l[i] _ hs) ?_
    rintro _ σ_ ⟨rfl, e_⟩
    obtain rfl := e_.symm
    (refine wX ?_)
    have e : (l.take (i + 1)).any p = p l[i] := by rw [List.take_add_one, List.getElem?_eq_getElem h, List.any_append, hw]; simp
    cases hp : p l[i]
    · rw [hp] at e
      (refine wX ?_)
      (repeat ((refine afit_i64 (by omega) ?_); (refine wX ?_)))
      refine ⟨i + 1, ⟨by omega, e⟩, by omega, Sub.refl _, ?_⟩
      (refine wX ?_)
      exact elX
    · (refine wX ?_)
      refine aret_same ⟨⟨_, rfl, ⟨fun _ => ?_, fun _ => by omega⟩⟩, rfl⟩
      exact List.any_eq_true.2 ⟨l[i], List.getElem_mem h, hp⟩
  · rw [List.take_of_length_le (by omega)] at hw
    (refine wX ?_)
    (repeat ((first | refine abr_no (by omega) ?_ | rw [List.length_map]); (refine wX ?_)))
    exact aret_same ⟨⟨-1, rfl, ⟨fun h => by omega, fun h => by rw [hw] at h; cases h⟩⟩, rfl⟩
theorem sContains {g ix : Nat} {b : AObj} {p : Sp → Bool} (hg : callB Tryz.prog g = true) (hc : ∀ y σ, σ ix = some b → ACalls Tryz.prog g [spV y, .ptr ix 0] σ fun v σ' => v = boolv (p y) ∧ σ' = σ) (l : List Sp) (t : Tok) (σ : AHeap) (hs : σ ix = some b) (hl : l.length ≤ 1000000) :
    ACalls Tryz.prog i_slices_ContainsFunc_spans_Span [spL t l, .func g [] [.ptr ix 0]] σ fun v σ' => v = boolv (l.any p) ∧ σ' = σ := by
  refine k_slices_ContainsFunc_spans_Span rfl ?_
  (refine wX ?_)
  refine acall (sIndex hg hc l t _ hs hl) ?_
  rintro _ σ_ ⟨⟨n, rfl, hn⟩, e_⟩
  obtain rfl := e_.symm
  refine ⟨?_, Ext.refl _⟩
  (refine wX ?_)
  have e : l.any p = decide (0 ≤ n) := by
    cases hh : l.any p with
    | true => exact (decide_eq_true (hn.2 hh)).symm
    | false => exact (decide_eq_false (fun k => by rw [hn.1 k] at hh; cases hh)).symm
  rw [e]
  exact aret_same ⟨congrArg boolv (dec_congr Iff.rfl), rfl⟩
theorem sHas1 (x : Sp) {ix : Nat} (y : Sp) (σ : AHeap) (b1 : σ ix = some (.cells [i64v x.1, i64v x.2])) : ACalls Tryz.prog i_spans_Set_Has_1 [spV y, .ptr ix 0] σ fun v σ' => v = boolv (decide (y.1 ≤ x.1 ∧ x.2 ≤ y.2)) ∧ σ' = σ := by
  obtain ⟨xa, xb⟩ := x
  obtain ⟨ya, yb⟩ := y
  refine k_spans_Set_Has_1 rfl ?_
  have H := Hp.nil σ
  (refine wX ?_)
  refine hnew H rfl ?_
  clear H
  intro iy τ H
  (refine wX ?_)
  (repeat ((first | refine zB H b1 rfl ?_ | (apply zL H; (· repeat first | exact .h | apply AtK.t); (· rfl))); (refine wX ?_)))
  by_cases h : ya ≤ xa
  · (repeat ((first | refine zY (by omega) ?_ | refine zB H b1 rfl ?_ | (apply zL H; (· repeat first | exact .h | apply AtK.t); (· rfl))); (refine wX ?_)))
    exact aret (VLe.refl _) H.sub ⟨congrArg boolv (dec_congr (by dsimp only; omega)), rfl⟩
  · (repeat ((refine zN (by omega) ?_); (refine wX ?_)))
    exact aret (VLe.refl _) H.sub ⟨congrArg boolv (decide_eq_false (by dsimp only; omega)).symm, rfl⟩
theorem sHas (x : Sp) {σ : AHeap} {is : Nat} {l : List Sp} {tk : Tok} (b1 : σ is = some (.cells [spL tk l])) (hl : l.length ≤ 1000000) : ACalls Tryz.prog i_spans_Set_Has [.ptr is 0, spV x] σ fun v σ' => v = boolv (hasS x l) ∧ σ' = σ := by
  obtain ⟨xa, xb⟩ := x
  refine k_spans_Set_Has rfl ?_
  have H := Hp.nil σ
  (refine wX ?_)
  refine hnew H rfl ?_
  clear H
  intro ix τ H
  (refine wX ?_)
  (repeat (((apply zA H; (· repeat first | exact .h | apply AtK.t))); (refine wX ?_)))
  refine acall (sAsk (is := is) (xa, xb) τ) ?_
  rintro _ σ_ ⟨rfl, e_⟩
  obtain rfl := e_.symm
  refine ⟨?_, Ext.refl _⟩
  (refine wX ?_)
  unfold hasS
  by_cases hr : spRight (xa, xb) = true
  · rw [if_pos hr, hr]
    (repeat ((first | refine zY (by omega) ?_ | refine zB H b1 rfl ?_); (refine wX ?_)))
    refine acall (sContains rfl (sHas1 (xa, xb)) l tk τ (H.get (k := 0) rfl) hl) ?_
    rintro _ σ_ ⟨rfl, e_⟩
    obtain rfl := e_.symm
    refine ⟨?_, Ext.refl _⟩
    (refine wX ?_)
    exact aret (VLe.refl _) H.sub ⟨rfl, rfl⟩
  · rw [if_neg hr, Bool.eq_false_iff.2 hr]
    (repeat ((refine zN (by omega) ?_); (refine wX ?_)))
    exact aret (VLe.refl _) H.sub ⟨rfl, rfl⟩
end Go.Proofs.YtgbpjbpdpgbngaaGreat
/-
  Spans: a new set; what a change of one keeps.
-/
namespace Go.Proofs.YtgbpjbpdpgbngaaGreat
open Go Go.Am

def newG (acc : List Sp) : List Sp → Int × List Sp
  | [] => (0, acc)
  | x :: l => if addC x acc = 0 then newG (addS x acc) l else (addC x acc, acc)
theorem spCode_len {l : List Sp} (h : spCode l = 0) : l.length ≤ 2048 := by
  unfold spCode at h; split at h <;> omega
theorem addC_zero {x : Sp} {l : List Sp} (h : addC x l = 0) : spRight x = true ∧ (addL x false l).length ≤ 2048 ∧ addS x l = addL x false l := by
  refine ⟨?_, ?_, by unfold addS; rw [if_pos h]⟩ <;> unfold addC at h <;> split at h
  · assumption
  · omega
  · exact spCode_len h
  · omega
theorem addS_len {x : Sp} {l : List Sp} : (addS x l).length ≤ l.length + 1 := by
  unfold addS; split
  · exact addL_len l x false
  · omega
theorem sNew (l : List Sp) (t : Tok) (σ : AHeap) (hl : l.length ≤ 1000) : ACalls Tryz.prog i_spans_New [spL t l] σ fun v σ' =>
    ((newG [] l).1 ≠ 0 ∧ v = .tup [.v (.pointer none), i64v (newG [] l).1] ∧ σ' = σ) ∨ ((newG [] l).1 = 0 ∧ ∃ is u, v = .tup [.ptr is 0, i64v 0] ∧ Hp σ [.o is (.cells [spL u (newG [] l).2])] σ') := by
  refine k_spans_New rfl ?_
  have H := Hp.nil σ
  (refine wX ?_)
  refine hnew H rfl ?_
  clear H
  intro is τ H
  (refine wX ?_)
  replace H : Hp σ [.o is (.cells [spL .full []])] τ := H
  refine aloop (α := Nat × List Sp × Tok × AHeap) (fun y => [(s12, i64v y.1)]) (fun y => y.2.2.2) (fun y => y.1 ≤ l.length ∧ y.2.1.length ≤ y.1 ∧ newG y.2.1 (l.drop y.1) = newG [] l ∧ Hp σ [.o is (.cells [spL y.2.2.1 y.2.1])] y.2.2.2) (fun y => l.length - y.1)
    (0, [], .full, τ) ⟨Nat.zero_le _, Nat.zero_le _, rfl, H⟩ (Sub.refl _) ?_ ?_
  · (refine wX ?_)
    exact elX
  clear H
  rintro ⟨i, acc, u, τ⟩ ⟨hi, ha, he, H⟩
  dsimp only at hi ha he H ⊢
  (refine wX ?_)
  by_cases h : i < l.length
  · rw [List.drop_eq_getElem_cons h] at he
    (repeat ((first | refine zY (by omega) ?_ | rw [List.length_map]); (refine wX ?_)))
    refine aget (by omega) (get_sp h) ?_
    generalize l[i] = y at *
    (refine wX ?_)
    (repeat ((refine acellA ?_); (refine wX ?_)))
    refine hnew H rfl ?_
    clear H
    intro iy τ H
    (refine wX ?_)
    (repeat ((first | (apply zA H; (· repeat first | exact .h | apply AtK.t)) | (apply zS H; (· repeat first | exact .h | apply AtK.t); (· rfl); (conv => whnf); clear H; intro τ H)); (refine wX ?_)))
    refine acall (sAdd H.tail y (by omega)) ?_
    clear H
    rintro _ τ ⟨rfl, u, H⟩
    (refine wX ?_)
    rw [show newG acc (y :: l.drop (i + 1)) = if addC y acc = 0 then newG (addS y acc) (l.drop (i + 1)) else (addC y acc, acc) from rfl] at he
    by_cases hc : addC y acc = 0
    · rw [if_pos hc] at he
      rw [hc]
      (refine wX ?_)
      (repeat ((refine zI (by omega) ?_); (refine wX ?_)))
      refine ⟨(i + 1, addS y acc, u, τ), ⟨h, by have := addS_len (x := y) (l := acc); dsimp only; omega, he, H⟩, by dsimp only; omega, Sub.refl _, ?_⟩
      (refine wX ?_)
      exact elX
    · rw [if_neg hc] at he
      refine abr_yes hc ?_
      (refine wX ?_)
      exact aret (VLe.refl _) H.sub (.inl ⟨by rw [← he]; exact hc, by rw [← he], rfl⟩)
  · rw [List.drop_eq_nil_of_le (by omega)] at he
    (repeat ((first | refine zN (by omega) ?_ | rw [List.length_map]); (refine wX ?_)))
    have e : newG [] l = (0, acc) := he.symm
    exact aret (VLe.refl _) (Sub.refl _) (.inr ⟨by rw [e], is, u, rfl, by rw [e]; exact H⟩)

/-- What a set's spans keep. -/
structure SOk (l : List Sp) : Prop where
  n : Nrm (-1) l
  k : l.length ≤ 2048
theorem SOk.nil : SOk [] := ⟨trivial, Nat.zero_le _⟩
theorem SOk.small {l : List Sp} (h : SOk l) : l.length ≤ 100000 := Nat.le_trans h.k (by omega)
theorem SOk.mid {l : List Sp} (h : SOk l) : l.length ≤ 1000000 := Nat.le_trans h.k (by omega)
theorem SOk.mem {l : List Sp} (h : SOk l) : ∀ y ∈ l, 0 ≤ y.1 ∧ y.1 ≤ y.2 ∧ y.2 ≤ 65536 := fun y hy => by have := h.n.mem hy; omega
theorem spRight_iff {x : Sp} : spRight x = true ↔ 0 ≤ x.1 ∧ x.1 < x.2 ∧ x.2 ≤ 65536 := decide_eq_true_iff
theorem SOk.add {l : List Sp} (h : SOk l) (x : Sp) : SOk (addS x l) := by
  by_cases hc : addC x l = 0
  · obtain ⟨h1, h2, h3⟩ := addC_zero hc
    rw [h3]
    have := spRight_iff.1 h1
    exact ⟨(addL_spec h.n (by omega) this.2.1 this.2.2).1, h2⟩
  · unfold addS; rw [if_neg hc]; exact h
theorem add_has {l : List Sp} (h : SOk l) {x : Sp} (hc : addC x l = 0) (p : Int) : hasP (addS x l) p ↔ hasP l p ∨ (x.1 ≤ p ∧ p < x.2) := by
  obtain ⟨h1, h2, h3⟩ := addC_zero hc
  rw [h3]
  have := spRight_iff.1 h1
  exact (addL_spec h.n (by omega) this.2.1 this.2.2).2 p
theorem add_no {l : List Sp} {x : Sp} (hc : addC x l ≠ 0) : addS x l = l := by unfold addS; rw [if_neg hc]
/-- All of a span's places lie in one span. -/
theorem Nrm.all : ∀ {b : Int} {l : List Sp} {x : Sp}, Nrm b l → x.1 < x.2 → (∀ p, x.1 ≤ p → p < x.2 → hasP l p) → ∃ y ∈ l, y.1 ≤ x.1 ∧ x.2 ≤ y.2
  | _, [], x, _, h, k => (has_nil.1 (k x.1 (Int.le_refl _) h)).elim
  | _, y :: l, x, ⟨g1, g2, g3, g4⟩, h, k => by
    by_cases c : y.1 ≤ x.1 ∧ x.1 < y.2
    · refine ⟨y, List.mem_cons_self .., c.1, ?_⟩
      by_cases c2 : x.2 ≤ y.2
      · exact c2
      · rcases has_cons.1 (k y.2 (by omega) (by omega)) with q | q
        · omega
        · have := g4.lo q; omega
    · obtain ⟨z, hz, q⟩ := Nrm.all g4 h fun p h1 h2 => by
        rcases has_cons.1 (k p h1 h2) with q | q
        · rcases has_cons.1 (k x.1 (Int.le_refl _) h) with q2 | q2
          · exact (c q2).elim
          · have := g4.lo q2; omega
        · exact q
      exact ⟨z, List.mem_cons_of_mem _ hz, q⟩
theorem hasS_iff {l : List Sp} (h : SOk l) {x : Sp} : hasS x l = true ↔ spRight x = true ∧ ∀ p, x.1 ≤ p → p < x.2 → hasP l p := by
  unfold hasS
  rw [Bool.and_eq_true, List.any_eq_true]
  constructor
  · rintro ⟨h1, y, hy, h2⟩
    have := of_decide_eq_true h2
    exact ⟨h1, fun p a b => ⟨y, hy, by omega, by omega⟩⟩
  · rintro ⟨h1, h2⟩
    obtain ⟨y, hy, q⟩ := h.n.all (spRight_iff.1 h1).2.1 h2
    exact ⟨h1, y, hy, decide_eq_true q⟩
theorem tchS_iff {l : List Sp} (h : SOk l) {x : Sp} : tchS x l = true ↔ spRight x = true ∧ ∃ p, x.1 ≤ p ∧ p < x.2 ∧ hasP l p := by
  unfold tchS
  rw [Bool.and_eq_true, List.any_eq_true]
  constructor
  · rintro ⟨h1, y, hy, h2⟩
    have := of_decide_eq_true h2
    have := spRight_iff.1 h1
    have := h.mem y hy
    have := h.n.mem hy
    exact ⟨h1, max x.1 y.1, by omega, by omega, y, hy, by omega, by omega⟩
  · rintro ⟨h1, p, a, b, y, hy, c, d⟩
    exact ⟨h1, y, hy, decide_eq_true (by omega)⟩
end Go.Proofs.YtgbpjbpdpgbngaaGreat
/-
  The numbers of what is kept: sums over them.
-/
namespace Go.Proofs.YtgbpjbpdpgbngaaGreat
open Go Go.Am

theorem sum_perm {a b : List Int} (h : a.Perm b) : a.sum = b.sum := by
  induction h with
  | nil => rfl
  | cons x _ ih => rw [List.sum_cons, List.sum_cons, ih]
  | swap x y l => rw [List.sum_cons, List.sum_cons, List.sum_cons, List.sum_cons]; omega
  | trans _ _ h1 h2 => rw [h1, h2]
end Go.Proofs.YtgbpjbpdpgbngaaGreat
/-
  Lists of byte strings.
-/
namespace Go.Proofs.YtgbpjbpdpgbngaaGreat
open Go Go.Am

abbrev lists (t : Tok) (l : List (List UInt8)) : AVal := .slice 1 (l.map (sl .none)) t
theorem get_lists {l : List (List UInt8)} {i : Nat} (h : i < l.length) : (l.map (sl .none))[((i : Nat) : Int).toNat]? = some (sl .none l[i]) := by
  rw [Int.toNat_natCast, List.getElem?_map, List.getElem?_eq_getElem h]; rfl
/-- How many bytes all are. -/
def total (l : List (List UInt8)) : Nat := l.flatten.length
theorem total_cons (a : List UInt8) (l : List (List UInt8)) : total (a :: l) = a.length + total l := by unfold total; simp
theorem total_append (a b : List (List UInt8)) : total (a ++ b) = total a + total b := by unfold total; simp
theorem total_take_succ (l : List (List UInt8)) (i : Nat) (h : i < l.length) : total (l.take (i + 1)) = total (l.take i) + l[i].length := by
  rw [List.take_add_one, List.getElem?_eq_getElem h, total_append]; unfold total; simp
theorem total_take_le (l : List (List UInt8)) (i : Nat) : total (l.take i) ≤ total l := by
  have := total_append (l.take i) (l.drop i)
  rw [List.take_append_drop] at this
  omega
theorem total_get {l : List (List UInt8)} {i : Nat} (h : i < l.length) : l[i].length ≤ total l := by
  have h1 := total_take_succ l i h
  have h2 := total_take_le l (i + 1)
  omega
end Go.Proofs.YtgbpjbpdpgbngaaGreat
/-
  Numbers that skip round: which they are.
-/
namespace Go.Proofs.YtgbpjbpdpgbngaaGreat
open Go Go.Am

def spaceOk (w : Int) : Prop := 1 ≤ w ∧ w ≤ 16
instance (w : Int) : Decidable (spaceOk w) := by unfold spaceOk; infer_instance
def spaceSize (w : Int) : Int := if spaceOk w then ((2 ^ w.toNat : Nat) : Int) else 0
def isNum (w n : Int) : Bool := decide (0 ≤ n ∧ n < spaceSize w)
theorem spaceSize_le (w : Int) : 0 ≤ spaceSize w ∧ spaceSize w ≤ 65536 := by
  unfold spaceSize
  split
  · rename_i h
    have h1 : 2 ^ w.toNat ≤ 2 ^ 16 := Nat.pow_le_pow_right (by omega) (by unfold spaceOk at h; omega)
    generalize 2 ^ w.toNat = q at *
    omega
  · omega
theorem shl1_nat {w : Nat} (h : w ≤ 62) : IntKind.i64.wrap ((1 : Int) * 2 ^ (min ((w : Nat) : Int).toNat IntKind.i64.bits)) = ((2 ^ w : Nat) : Int) := by
  have h1 : 2 ^ w ≤ 2 ^ 62 := Nat.pow_le_pow_right (by omega) h
  rw [Int.toNat_natCast, Nat.min_eq_left (show w ≤ IntKind.i64.bits by show w ≤ 64; omega), Int.one_mul]
  have e : (2 : Int) ^ w = ((2 ^ w : Nat) : Int) := by simp
  rw [e]
  generalize 2 ^ w = q at *
  exact wrap_i64 (by omega) (by omega)

theorem sqRight (w : Int) (σ : AHeap) : ACalls Tryz.prog i_seqnum_Right [.agg [i64v w]] σ fun v σ' => v = boolv (decide (spaceOk w)) ∧ σ' = σ := by
  refine k_seqnum_Right rfl ?_
  (refine wX ?_)
  refine anew rfl fun id hid => ?_
  (refine wX ?_)
  refine aloads (l := [i64v w]) (upd_same _ _ _) (by exact Nat.le_refl 1) rfl ?_
  (refine wX ?_)
  have hs : Sub (upd σ id (.cells (AVal.agg [i64v w]).cells)) σ := Sub.upd_fresh _ hid
  by_cases h0 : w = 0
  · subst h0
    (refine wX ?_)
    exact aret (VLe.refl _) hs ⟨rfl, rfl⟩
  · refine abr_true (by rw [decide_eq_false h0]; rfl) ?_
    (refine wX ?_)
    (repeat ((refine aload (by (repeat (first | with_reducible exact upd_same _ _ _ | assumption | rw [upd_ne _ _ (by first | assumption | (apply Ne.symm; assumption))]))) rfl ?_); (refine wX ?_)))
    by_cases h1 : 1 ≤ w
    · (repeat ((first | refine aload (by (repeat (first | with_reducible exact upd_same _ _ _ | assumption | rw [upd_ne _ _ (by first | assumption | (apply Ne.symm; assumption))]))) rfl ?_ | refine abr_yes (by omega) ?_); (refine wX ?_)))
      exact aret (VLe.refl _) hs ⟨congrArg boolv (dec_congr ⟨fun h => ⟨h1, h⟩, fun h => h.2⟩), rfl⟩
    · (repeat ((refine abr_no (by omega) ?_); (refine wX ?_)))
      exact aret (VLe.refl _) hs ⟨congrArg boolv (decide_eq_false fun h => h1 h.1).symm, rfl⟩

theorem sqSize (w : Int) (σ : AHeap) : ACalls Tryz.prog i_seqnum_Space_Size [.agg [i64v w]] σ fun v σ' => v = i64v (spaceSize w) ∧ σ' = σ := by
  refine k_seqnum_Space_Size rfl ?_
  (refine wX ?_)
  refine anew rfl fun id hid => ?_
  (refine wX ?_)
  refine aloads (l := [i64v w]) (upd_same _ _ _) (by exact Nat.le_refl 1) rfl ?_
  (refine wX ?_)
  have hs : Sub (upd σ id (.cells (AVal.agg [i64v w]).cells)) σ := Sub.upd_fresh _ hid
  refine acall (sqRight w _) ?_
  rintro _ σ_ ⟨rfl, e_⟩
  obtain rfl := e_.symm
  refine ⟨?_, Ext.refl _⟩
  (refine wX ?_)
  by_cases h : spaceOk w
  · obtain ⟨k, rfl⟩ : ∃ k : Nat, w = k := ⟨w.toNat, by unfold spaceOk at h; omega⟩
    refine abr_false (by rw [decide_eq_true h]; rfl) ?_
    (refine wX ?_)
    (repeat ((refine aload (by (repeat (first | with_reducible exact upd_same _ _ _ | assumption | rw [upd_ne _ _ (by first | assumption | (apply Ne.symm; assumption))]))) rfl ?_); (refine wX ?_)))
    refine ashl_eq (by omega) (shl1_nat (by unfold spaceOk at h; omega)) ?_
    (refine wX ?_)
    exact aret (VLe.refl _) hs ⟨by unfold spaceSize; rw [if_pos h, Int.toNat_natCast], rfl⟩
  · refine abr_true (by rw [decide_eq_false h]; rfl) ?_
    (refine wX ?_)
    exact aret (VLe.refl _) hs ⟨by unfold spaceSize; rw [if_neg h], rfl⟩

theorem sqIs (w n : Int) (σ : AHeap) : ACalls Tryz.prog i_seqnum_Space_Is [.agg [i64v w], i64v n] σ fun v σ' => v = boolv (isNum w n) ∧ σ' = σ := by
  refine k_seqnum_Space_Is rfl ?_
  (refine wX ?_)
  refine anew rfl fun id hid => ?_
  have hs : Sub (upd σ id (.cells (AVal.agg [i64v w]).cells)) σ := Sub.upd_fresh _ hid
  (refine wX ?_)
  by_cases h : 0 ≤ n
  · (repeat ((refine abr_yes (by omega) ?_); (refine wX ?_)))
    refine aloads (l := [i64v w]) (upd_same _ _ _) (by exact Nat.le_refl 1) rfl ?_
    (refine wX ?_)
    refine acall (sqSize w _) ?_
    rintro _ σ_ ⟨rfl, e_⟩
    obtain rfl := e_.symm
    refine ⟨?_, Ext.refl _⟩
    (refine wX ?_)
    exact aret (VLe.refl _) hs ⟨congrArg boolv (dec_congr ⟨fun h2 => ⟨h, h2⟩, fun h2 => h2.2⟩), rfl⟩
  · (repeat ((refine abr_no (by omega) ?_); (refine wX ?_)))
    exact aret (VLe.refl _) hs ⟨congrArg boolv (decide_eq_false fun h2 => h h2.1).symm, rfl⟩

theorem refSize02 (w : Int) (σ : AHeap) : ACalls Tryz.prog i_bowlineref02_Size [i64v w] σ fun v σ' => v = i64v (spaceSize w) ∧ σ' = σ := by
  refine k_bowlineref02_Size rfl ?_
  (refine wX ?_)
  by_cases h1 : w < 1
  · (repeat ((refine abr_yes (by omega) ?_); (refine wX ?_)))
    exact aret_same ⟨by unfold spaceSize; rw [if_neg (fun h => by unfold spaceOk at h; omega)], rfl⟩
  · by_cases h2 : w > 16
    · (repeat ((first | refine abr_yes (by omega) ?_ | refine abr_no (by omega) ?_); (refine wX ?_)))
      exact aret_same ⟨by unfold spaceSize; rw [if_neg (fun h => by unfold spaceOk at h; omega)], rfl⟩
    · obtain ⟨k, rfl⟩ : ∃ k : Nat, w = k := ⟨w.toNat, by omega⟩
      (repeat ((refine abr_no (by omega) ?_); (refine wX ?_)))
      refine aloop (α := Nat) (fun i => [(s3, i64v ((2 ^ i : Nat) : Int)), (s4, i64v i)]) (fun _ => σ) (fun i => i ≤ k) (fun i => k - i) 0 (Nat.zero_le _) (Sub.refl _) ?_ ?_
      · (refine wX ?_)
        exact elX
      intro i hi
      have hp : 2 ^ i ≤ 2 ^ 16 := Nat.pow_le_pow_right (by omega) (by omega)
      have hsucc : 2 ^ (i + 1) = 2 * 2 ^ i := by rw [Nat.pow_succ, Nat.mul_comm]
      by_cases h : i < k
      · generalize hq : 2 ^ i = q at *
        (refine wX ?_)
        (repeat ((first | refine afit_i64 (by omega) ?_ | refine abr_yes (by omega) ?_); (refine wX ?_)))
        refine ⟨i + 1, h, by omega, Sub.refl _, ?_⟩
        rw [hsucc, show (2 : Int) * (q : Int) = ((2 * q : Nat) : Int) by omega]
        (refine wX ?_)
        exact elX
      · obtain rfl : i = k := by omega
        have he : spaceSize (i : Int) = ((2 ^ i : Nat) : Int) := by unfold spaceSize; rw [if_pos (by unfold spaceOk; omega), Int.toNat_natCast]
        generalize hq : 2 ^ i = q at *
        (refine wX ?_)
        (repeat ((refine abr_no (by omega) ?_); (refine wX ?_)))
        exact aret_same ⟨by rw [he], rfl⟩

theorem refIs02 (w n : Int) (σ : AHeap) : ACalls Tryz.prog i_bowlineref02_Is [i64v w, i64v n] σ fun v σ' => v = boolv (isNum w n) ∧ σ' = σ := by
  refine k_bowlineref02_Is rfl ?_
  (refine wX ?_)
  by_cases h : 0 ≤ n
  · (repeat ((refine abr_yes (by omega) ?_); (refine wX ?_)))
    refine acall (refSize02 w _) ?_
    rintro _ σ_ ⟨rfl, e_⟩
    obtain rfl := e_.symm
    refine ⟨?_, Ext.refl _⟩
    (refine wX ?_)
    exact aret_same ⟨congrArg boolv (dec_congr ⟨fun h2 => ⟨h, h2⟩, fun h2 => h2.2⟩), rfl⟩
  · (repeat ((refine abr_no (by omega) ?_); (refine wX ?_)))
    exact aret_same ⟨congrArg boolv (decide_eq_false fun h2 => h h2.1).symm, rfl⟩
end Go.Proofs.YtgbpjbpdpgbngaaGreat
/-
  Packets that are not acknowledged: how many bytes they have.
-/
namespace Go.Proofs.YtgbpjbpdpgbngaaGreat
open Go Go.Am

end Go.Proofs.YtgbpjbpdpgbngaaGreat
/-
  Packets that are acknowledged: how many bytes they have.
-/
namespace Go.Proofs.YtgbpjbpdpgbngaaGreat
open Go Go.Am

structure Pk where
  poll : Bool
  fi : Int
  sn : Int
  part : Bool
  last : Bool
  off : Int
  fs : List (List UInt8)
deriving DecidableEq
abbrev amC (p : Pk) : List AVal := [boolv p.poll, i64v p.fi, i64v p.sn, boolv p.part, boolv p.last, i64v p.off, lists .none p.fs]
abbrev amV (p : Pk) : AVal := .agg [boolv p.poll, i64v p.fi, i64v p.sn, boolv p.part, boolv p.last, i64v p.off, lists .none p.fs]
def amWidth (w : Int) : Bool := decide (w = 10) || decide (w = 16)
def offTop (w : Int) : Int := if w = 10 then 32768 else 65536
def amBad (p : Pk) (w : Int) : Prop := (amWidth w = false ∨ p.fi < 0 ∨ p.fi > 3 ∨ isNum w p.sn = false) ∨ ((p.part = false ∧ (p.last = true ∨ p.off ≠ 0)) ∨ p.off < 0 ∨ p.off ≥ offTop w)
instance (p : Pk) (w : Int) : Decidable (amBad p w) := by unfold amBad; infer_instance
end Go.Proofs.YtgbpjbpdpgbngaaGreat
/-
  Packets that are acknowledged: their data.
-/
namespace Go.Proofs.YtgbpjbpdpgbngaaGreat
open Go Go.Am

theorem aData (p : Pk) (σ : AHeap) (hn : p.fs.length ≤ 1000) (ht : total p.fs ≤ 140737488355328) : ACalls Tryz.prog i_amd_Data [amV p] σ fun v σ' => v = sl .none p.fs.flatten ∧ σ' = σ := by
  refine k_amd_Data rfl ?_
  have H := Hp.nil σ
  (refine wX ?_)
  refine hnew H rfl ?_
  clear H
  intro id τ H
  (refine wX ?_)
  (repeat (((apply zL H; (· repeat first | exact .h | apply AtK.t); (· rfl))); (refine wX ?_)))
  refine acall (Join p.fs .none .full τ (by omega) (show total p.fs ≤ _ by omega)) ?_
  rintro _ σ_ ⟨rfl, e_⟩
  obtain rfl := e_.symm
  refine ⟨?_, Ext.refl _⟩
  (refine wX ?_)
  exact aret (VLe.refl _) H.sub ⟨rfl, rfl⟩
end Go.Proofs.YtgbpjbpdpgbngaaGreat
/-
  What came in parts: plain contracts of what a buffer does.
-/
namespace Go.Proofs.YtgbpjbpdpgbngaaGreat
set_option maxRecDepth 20000
open Go Go.Am

theorem buEmpty (b : List UInt8) (σ : AHeap) : ACalls Tryz.prog i_rxbuf_right_1 [sl .none b] σ fun v σ' => v = boolv (decide (b = [])) ∧ σ' = σ := by
  refine k_rxbuf_right_1 rfl ?_
  (refine wX ?_)
  refine aret_same ⟨?_, rfl⟩
  rw [List.length_map]
  exact congrArg boolv (dec_congr ⟨fun h => List.length_eq_zero_iff.1 (by omega), fun h => by subst h; rfl⟩)
/-- Is one of them empty? -/
def hollowB (l : List (List UInt8)) : Bool := l.any fun b => decide (b = [])
theorem buIndex (l : List (List UInt8)) (t : Tok) (σ : AHeap) (hl : l.length ≤ 140737488355328) : ACalls Tryz.prog i_slices_IndexFunc_byte_byte [lists t l, .func i_rxbuf_right_1 [] []] σ fun v σ' => (∃ n : Int, v = i64v n ∧ (n ≥ 0 ↔ hollowB l = true)) ∧ σ' = σ := by
  refine k_slices_IndexFunc_byte_byte rfl ?_
  (refine wX ?_)
  refine aloop (α := Nat) (fun i => [(s8, i64v i)]) (fun _ => σ) (fun i => i ≤ l.length ∧ hollowB (l.take i) = false) (fun i => l.length - i) 0 ⟨Nat.zero_le _, rfl⟩ (Sub.refl _) ?_ ?_
  · (refine wX ?_)
    exact elX
  rintro i ⟨hi, hw⟩
  by_cases h : i < l.length
  · (refine wX ?_)
    (repeat ((first | refine abr_yes (by omega) ?_ | rw [List.length_map]); (refine wX ?_)))
    refine aget (by omega) (get_lists h) ?_
    (refine wX ?_)
    refine acell rfl ?_
    (refine wX ?_)
    refine ⟨rfl, ?_⟩
    (refine wX ?_)
    refine acall (buEmpty l[i] _) ?_
    rintro _ σ_ ⟨rfl, e_⟩
    obtain rfl := e_.symm
    (refine wX ?_)
    have e : hollowB (l.take (i + 1)) = decide (l[i] = []) := by unfold hollowB at hw ⊢; rw [List.take_add_one, List.getElem?_eq_getElem h, List.any_append, hw]; simp
    by_cases hc : l[i] = []
    · rw [decide_eq_true hc]
      (refine wX ?_)
      refine aret_same ⟨⟨_, rfl, ⟨fun _ => ?_, fun _ => by omega⟩⟩, rfl⟩
      exact List.any_eq_true.2 ⟨l[i], List.getElem_mem h, decide_eq_true hc⟩
    · rw [decide_eq_false hc] at e ⊢
      (refine wX ?_)
      (repeat ((refine afit_i64 (by omega) ?_); (refine wX ?_)))
      refine ⟨i + 1, ⟨by omega, e⟩, by omega, Sub.refl _, ?_⟩
      (refine wX ?_)
      exact elX
  · rw [List.take_of_length_le (by omega)] at hw
    (refine wX ?_)
    (repeat ((first | refine abr_no (by omega) ?_ | rw [List.length_map]); (refine wX ?_)))
    exact aret_same ⟨⟨-1, rfl, ⟨fun h => by omega, fun h => by rw [hw] at h; cases h⟩⟩, rfl⟩
theorem buContains (l : List (List UInt8)) (t : Tok) (σ : AHeap) (hl : l.length ≤ 140737488355328) : ACalls Tryz.prog i_slices_ContainsFunc_byte_byte [lists t l, .func i_rxbuf_right_1 [] []] σ fun v σ' => v = boolv (hollowB l) ∧ σ' = σ := by
  refine k_slices_ContainsFunc_byte_byte rfl ?_
  (refine wX ?_)
  refine acall (buIndex l t _ hl) ?_
  rintro _ σ_ ⟨⟨n, rfl, hn⟩, e_⟩
  obtain rfl := e_.symm
  refine ⟨?_, Ext.refl _⟩
  (refine wX ?_)
  have e : hollowB l = decide (0 ≤ n) := by
    cases hh : hollowB l with
    | true => exact (decide_eq_true (hn.2 hh)).symm
    | false => exact (decide_eq_false (fun k => by rw [hn.1 k] at hh; cases hh)).symm
  rw [e]
  exact aret_same ⟨congrArg boolv (dec_congr Iff.rfl), rfl⟩

theorem gapsL_len {to : Int} : ∀ {l : List Sp} {k : Int}, (gapsL to k l).length ≤ l.length + 1
  | [], k => by unfold gapsL; split <;> simp
  | y :: l, k => by
    unfold gapsL
    rw [List.length_append, List.length_cons]
    have := gapsL_len (to := to) (l := l) (k := y.2)
    split <;> simp <;> omega
def gapsV (to : Int) (l : List Sp) : List Sp := if 1 ≤ to ∧ to ≤ 65536 then gapsL to 0 l else []
set_option maxRecDepth 20000 in
theorem sGaps {σ : AHeap} {is : Nat} {l : List Sp} {tk : Tok} (b1 : σ is = some (.cells [spL tk l])) (k : SOk l) (to : Int) : ACalls Tryz.prog i_spans_Set_Gaps [.ptr is 0, i64v to] σ fun v σ' => ∃ u, Owned σ σ' u ∧ v = spL u (gapsV to l) := by
  refine k_spans_Set_Gaps rfl ?_
  have H := Hp.nil σ
  (refine wX ?_)
  unfold gapsV
  by_cases h1 : to < 1
  · rw [if_neg (by omega)]
    (repeat ((refine zY (by omega) ?_); (refine wX ?_)))
    exact aret_same ⟨_, .full σ, rfl⟩
  by_cases h2 : to > 65536
  · rw [if_neg (by omega)]
    (repeat ((first | refine zY (by omega) ?_ | refine zN (by omega) ?_); (refine wX ?_)))
    exact aret_same ⟨_, .full σ, rfl⟩
  rw [if_pos (by omega)]
  (repeat ((first | refine zN (by omega) ?_ | refine zB H b1 rfl ?_ | rw [List.length_map]); (refine wX ?_)))
  refine aloop (α := Nat × Int × List Sp × Tok × AHeap) (fun y => [(s24, i64v y.1), (s6, i64v y.2.1), (s5, spL y.2.2.2.1 y.2.2.1)]) (fun y => y.2.2.2.2) (fun y => y.1 ≤ l.length ∧ y.2.2.1.length ≤ y.1 ∧ y.2.2.1 ++ gapsL to y.2.1 (l.drop y.1) = gapsL to 0 l ∧ Hp σ [.t y.2.2.2.1] y.2.2.2.2) (fun y => l.length - y.1)
    (0, 0, [], .full, σ) ⟨Nat.zero_le _, Nat.zero_le _, rfl, H.cons_full⟩ (Sub.refl _) ?_ ?_
  · (refine wX ?_)
    exact elX
  clear H
  rintro ⟨i, at_, out, tk1, τ⟩ ⟨hi, ho, he, H⟩
  dsimp only at hi ho he H ⊢
  have := k.k
  (refine wX ?_)
  by_cases h : i < l.length
  · rw [List.drop_eq_getElem_cons h, show gapsL to at_ (l[i] :: l.drop (i + 1)) = (if l[i].1 > at_ ∧ at_ < to then [(at_, min l[i].1 to)] else []) ++ gapsL to l[i].2 (l.drop (i + 1)) from rfl] at he
    (repeat ((refine zY (by omega) ?_); (refine wX ?_)))
    refine aget (by omega) (get_sp h) ?_
    generalize l[i] = y at *
    obtain ⟨ya, yb⟩ := y
    (refine wX ?_)
    (repeat ((refine acellA ?_); (refine wX ?_)))
    refine hnew H rfl ?_
    clear H
    intro iy τ H
    (refine wX ?_)
    (repeat ((first | (apply zL H; (· repeat first | exact .h | apply AtK.t); (· rfl)) | (apply zS H; (· repeat first | exact .h | apply AtK.t); (· rfl); (conv => whnf); clear H; intro τ H)); (refine wX ?_)))
    dsimp only at he
    by_cases c1 : ya > at_
    · by_cases c2 : at_ < to
      · rw [if_pos ⟨c1, c2⟩] at he
        (repeat ((first | refine zY (by omega) ?_ | refine amin ?_ | (apply zL H; (· repeat first | exact .h | apply AtK.t); (· rfl))); (refine wX ?_)))
        apply zP H
        · (repeat first | exact .h | apply AtK.t)
        · exact (by rw [List.length_map]; show (_ + 1) * 16 ≤ _; omega)
        intro tk2
        (conv => whnf)
        clear H
        intro τ H
        (refine wX ?_)
        rw [show [AVal.agg [i64v at_, i64v (min ya to)]] = [spV (at_, min ya to)] from rfl, sp_snoc]
        (repeat ((first | refine zI (by omega) ?_ | (apply zL H; (· repeat first | exact .h | apply AtK.t); (· rfl))); (refine wX ?_)))
        refine ⟨(i + 1, yb, out ++ [(at_, min ya to)], tk2, τ), ⟨h, by dsimp only; rw [List.length_append, List.length_singleton]; omega, by dsimp only; rw [← he, List.append_assoc], H.tail⟩, by dsimp only; omega, Sub.refl _, ?_⟩
        (refine wX ?_)
        exact elX
      · rw [if_neg (fun h => c2 h.2)] at he
        (repeat ((first | refine zI (by omega) ?_ | refine zY (by omega) ?_ | refine zN (by omega) ?_ | (apply zL H; (· repeat first | exact .h | apply AtK.t); (· rfl))); (refine wX ?_)))
        refine ⟨(i + 1, yb, out, tk1, τ), ⟨h, by dsimp only; omega, he, H.tail⟩, by dsimp only; omega, Sub.refl _, ?_⟩
        (refine wX ?_)
        exact elX
    · rw [if_neg (fun h => c1 h.1)] at he
      (repeat ((first | refine zI (by omega) ?_ | refine zN (by omega) ?_ | (apply zL H; (· repeat first | exact .h | apply AtK.t); (· rfl))); (refine wX ?_)))
      refine ⟨(i + 1, yb, out, tk1, τ), ⟨h, by dsimp only; omega, he, H.tail⟩, by dsimp only; omega, Sub.refl _, ?_⟩
      (refine wX ?_)
      exact elX
  · rw [List.drop_eq_nil_of_le (by omega), show gapsL to at_ [] = if at_ < to then [(at_, to)] else [] from rfl] at he
    (repeat ((refine zN (by omega) ?_); (refine wX ?_)))
    rw [← he]
    by_cases c : at_ < to
    · rw [if_pos c]
      (repeat ((refine zY (by omega) ?_); (refine wX ?_)))
      apply zP H
      · (repeat first | exact .h | apply AtK.t)
      · exact (by rw [List.length_map]; show (_ + 1) * 16 ≤ _; omega)
      intro tk2
      (conv => whnf)
      clear H
      intro τ H
      (refine wX ?_)
      rw [show [AVal.agg [i64v at_, i64v to]] = [spV (at_, to)] from rfl, sp_snoc]
      (refine wX ?_)
      skip
      obtain ⟨σ2, q1, q2⟩ := H.toOwned
      exact aret (VLe.refl _) q2 ⟨tk2, q1, rfl⟩
    · rw [if_neg c, List.append_nil]
      (repeat ((refine zN (by omega) ?_); (refine wX ?_)))
      obtain ⟨σ2, q1, q2⟩ := H.toOwned
      exact aret (VLe.refl _) q2 ⟨tk1, q1, rfl⟩

/-- A piece's cells: its bytes, what is there, its end (-1: unknown), where fields begin, its FI. -/
abbrev peC (v : AVal) (is : Nat) (e : Int) (ig : Nat) (fi : Int) : List AVal := [v, .ptr is 0, i64v e, .map ig, i64v fi]
abbrev buC (im : Nat) : List AVal := [.map im]
def topL (l : List Sp) : Int := match l.getLast? with
  | none => 0
  | some y => y.2
def wholeV (l : List Sp) (e : Int) : Bool := decide (e > 0) && hasS (0, e) l
def fitsC (l : List Sp) (e : Int) (y : Sp) (ends : Bool) : Int :=
  if (e ≠ -1 ∧ (y.2 > e ∨ (ends = true ∧ y.2 ≠ e))) ∨ (ends = true ∧ topL l > y.2) then 3 else if hasS y l = true then 12 else 0
def missL (l : List Sp) (e : Int) : List Sp := if e ≠ -1 then gapsV e l else gapsV (topL l) l ++ [(topL l, 0)]
def rightB (p : Pk) : Bool := !(decide (p.fs.length < 1) || decide (p.fs.length > 24) || hollowB p.fs || decide (p.fi < 0) || decide (p.fi > 3)) && (decide (0 ≤ p.off) && decide (p.off ≤ 4000) && (p.part || decide (p.off = 0)) && decide ((total p.fs : Int) ≤ 4000 - p.off))

section
variable {σ : AHeap} {ib im ip is ig : Nat} {e fi : Int} {es : List (Int × AVal)} {l : List Sp} {tk : Tok} {v : AVal}
theorem buMade (b1 : σ ib = some (.cells (buC im))) : ACalls Tryz.prog i_rxbuf_Buffer_made [.ptr ib 0] σ fun v σ' => v = boolv true ∧ σ' = σ := by
  refine k_rxbuf_Buffer_made rfl ?_
  have H := Hp.nil σ
  (refine wX ?_)
  (repeat ((refine zB H b1 rfl ?_); (refine wX ?_)))
  exact aret (VLe.refl _) H.sub ⟨rfl, rfl⟩
theorem buFind (b1 : σ ib = some (.cells (buC im))) (b2 : σ im = some (.map es)) (sn : Int) (he : es.find? (fun e => e.1 == sn) = some (sn, .ptr ip 0)) :
    ACalls Tryz.prog i_rxbuf_Buffer_find [.ptr ib 0, i64v sn] σ fun v σ' => v = .tup [.ptr ip 0, i64v 0] ∧ σ' = σ := by
  refine k_rxbuf_Buffer_find rfl ?_
  have H := Hp.nil σ
  (refine wX ?_)
  refine acall (buMade b1) ?_
  rintro _ σ_ ⟨rfl, e_⟩
  obtain rfl := e_.symm
  refine ⟨?_, Ext.refl _⟩
  (refine wX ?_)
  (repeat ((refine zB H b1 rfl ?_); (refine wX ?_)))
  refine hlookB H b2 ?_
  rw [he]
  (refine wX ?_)
  skip
  exact aret (VLe.refl _) H.sub ⟨rfl, rfl⟩
theorem buNone (b1 : σ ib = some (.cells (buC im))) (b2 : σ im = some (.map es)) (sn : Int) (he : es.find? (fun e => e.1 == sn) = none) :
    ACalls Tryz.prog i_rxbuf_Buffer_find [.ptr ib 0, i64v sn] σ fun v σ' => v = .tup [.v (.pointer none), i64v 4] ∧ σ' = σ := by
  refine k_rxbuf_Buffer_find rfl ?_
  have H := Hp.nil σ
  (refine wX ?_)
  refine acall (buMade b1) ?_
  rintro _ σ_ ⟨rfl, e_⟩
  obtain rfl := e_.symm
  refine ⟨?_, Ext.refl _⟩
  (refine wX ?_)
  (repeat ((refine zB H b1 rfl ?_); (refine wX ?_)))
  refine hlookB H b2 ?_
  rw [he]
  (refine wX ?_)
  skip
  exact aret (VLe.refl _) H.sub ⟨rfl, rfl⟩
theorem peWhole (b1 : σ ip = some (.cells (peC v is e ig fi))) (b2 : σ is = some (.cells [spL tk l])) (hl : l.length ≤ 1000000) : ACalls Tryz.prog i_rxbuf_piece_whole [.ptr ip 0] σ fun v σ' => v = boolv (wholeV l e) ∧ σ' = σ := by
  refine k_rxbuf_piece_whole rfl ?_
  have H := Hp.nil σ
  (refine wX ?_)
  (repeat ((refine zB H b1 rfl ?_); (refine wX ?_)))
  unfold wholeV
  by_cases h : e > 0
  · rw [decide_eq_true h]
    (repeat ((first | refine zY (by omega) ?_ | refine zB H b1 rfl ?_); (refine wX ?_)))
    refine acall (sHas (0, e) b2 hl) ?_
    rintro _ σ_ ⟨rfl, e_⟩
    obtain rfl := e_.symm
    refine ⟨?_, Ext.refl _⟩
    (refine wX ?_)
    exact aret (VLe.refl _) H.sub ⟨by rw [Bool.true_and], rfl⟩
  · rw [decide_eq_false h]
    (repeat ((refine zN (by omega) ?_); (refine wX ?_)))
    exact aret (VLe.refl _) H.sub ⟨rfl, rfl⟩
theorem peTop (b1 : σ ip = some (.cells (peC v is e ig fi))) (b2 : σ is = some (.cells [spL tk l])) (hl : l.length ≤ 1000000) : ACalls Tryz.prog i_rxbuf_piece_top [.ptr ip 0] σ fun v σ' => v = i64v (topL l) ∧ σ' = σ := by
  refine k_rxbuf_piece_top rfl ?_
  have H := Hp.nil σ
  (refine wX ?_)
  (repeat ((refine zB H b1 rfl ?_); (refine wX ?_)))
  refine acall_less (sSpans b2 hl) ?_
  rintro _ σ2 ⟨u, hu, rfl⟩
  refine ⟨spL .none l, σ, VLe.slice _ _ _, hu.sub, ?_, Ext.refl _⟩
  (refine wX ?_)
  rw [List.length_map]
  unfold topL
  rcases snoc_cases l with rfl | ⟨r, z, rfl⟩
  · (refine wX ?_)
    skip
    exact aret (VLe.refl _) H.sub ⟨rfl, rfl⟩
  · rw [List.getLast?_concat]
    have hl' : (r ++ [z]).length = r.length + 1 := by simp
    have hg : ((r ++ [z]).map spV)[((((r ++ [z]).length : Nat) : Int) - 1).toNat]? = some (spV z) := by
      rw [List.map_append, show ((((r ++ [z]).length : Nat) : Int) - 1).toNat = (r.map spV).length by rw [List.length_map]; omega]; simp
    (repeat ((first | refine zI (by omega) ?_ | refine zN (by omega) ?_ | rw [List.length_map]); (refine wX ?_)))
    refine aget (by omega) hg ?_
    (refine wX ?_)
    (repeat ((refine zR rfl ?_); (refine wX ?_)))
    exact aret (VLe.refl _) H.sub ⟨rfl, rfl⟩
theorem buWhole (b1 : σ ib = some (.cells (buC im))) (b2 : σ im = some (.map es)) (sn : Int) (he : es.find? (fun e => e.1 == sn) = some (sn, .ptr ip 0)) (b3 : σ ip = some (.cells (peC v is e ig fi))) (b4 : σ is = some (.cells [spL tk l])) (hl : l.length ≤ 1000000) :
    ACalls Tryz.prog i_rxbuf_Buffer_Whole [.ptr ib 0, i64v sn] σ fun v σ' => v = boolv (wholeV l e) ∧ σ' = σ := by
  refine k_rxbuf_Buffer_Whole rfl ?_
  have H := Hp.nil σ
  (refine wX ?_)
  refine acall (buFind b1 b2 sn he) ?_
  rintro _ σ_ ⟨rfl, e_⟩
  obtain rfl := e_.symm
  refine ⟨?_, Ext.refl _⟩
  (refine wX ?_)
  skip
  refine acall (peWhole b3 b4 hl) ?_
  rintro _ σ_ ⟨rfl, e_⟩
  obtain rfl := e_.symm
  refine ⟨?_, Ext.refl _⟩
  (refine wX ?_)
  exact aret (VLe.refl _) H.sub ⟨rfl, rfl⟩
theorem buWholeNone (b1 : σ ib = some (.cells (buC im))) (b2 : σ im = some (.map es)) (sn : Int) (he : es.find? (fun e => e.1 == sn) = none) :
    ACalls Tryz.prog i_rxbuf_Buffer_Whole [.ptr ib 0, i64v sn] σ fun v σ' => v = boolv false ∧ σ' = σ := by
  refine k_rxbuf_Buffer_Whole rfl ?_
  have H := Hp.nil σ
  (refine wX ?_)
  refine acall (buNone b1 b2 sn he) ?_
  rintro _ σ_ ⟨rfl, e_⟩
  obtain rfl := e_.symm
  refine ⟨?_, Ext.refl _⟩
  (refine wX ?_)
  skip
  exact aret (VLe.refl _) H.sub ⟨rfl, rfl⟩
set_option maxRecDepth 20000 in
theorem peFits (b1 : σ ip = some (.cells (peC v is e ig fi))) (b2 : σ is = some (.cells [spL tk l])) (hl : l.length ≤ 1000000) (y : Sp) (ends : Bool) : ACalls Tryz.prog i_rxbuf_piece_fits [.ptr ip 0, spV y, boolv ends] σ fun v σ' => v = i64v (fitsC l e y ends) ∧ σ' = σ := by
  obtain ⟨ya, yb⟩ := y
  refine k_rxbuf_piece_fits rfl ?_
  have H := Hp.nil σ
  (refine wX ?_)
  refine hnew H rfl ?_
  clear H
  intro i4 τ H
  (refine wX ?_)
  replace H : Hp σ [.o i4 (.cells [i64v ya, i64v yb])] τ := H
  (repeat ((refine zB H b1 rfl ?_); (refine wX ?_)))
  unfold fitsC
  dsimp only
  by_cases h1 : e = -1
  · (repeat ((refine zN (by omega) ?_); (refine wX ?_)))
    cases ends
    · rw [if_neg (by simp; omega)]
      (refine wX ?_)
      (repeat ((first | refine zB H b1 rfl ?_ | (apply zA H; (· repeat first | exact .h | apply AtK.t))); (refine wX ?_)))
      refine acall (sHas (ya, yb) (H.sub _ _ b2) hl) ?_
      rintro _ σ_ ⟨rfl, e_⟩
      obtain rfl := e_.symm
      refine ⟨?_, Ext.refl _⟩
      (refine wX ?_)
      cases hasS (ya, yb) l
      · (refine wX ?_)
        skip
        exact aret (VLe.refl _) H.sub ⟨rfl, rfl⟩
      · (refine wX ?_)
        skip
        exact aret (VLe.refl _) H.sub ⟨rfl, rfl⟩
    · (refine wX ?_)
      (repeat (((apply zL H; (· repeat first | exact .h | apply AtK.t); (· rfl))); (refine wX ?_)))
      (refine wX ?_)
      skip
      refine acall (peTop (H.sub _ _ b1) (H.sub _ _ b2) hl) ?_
      rintro _ σ_ ⟨rfl, e_⟩
      obtain rfl := e_.symm
      refine ⟨?_, Ext.refl _⟩
      (refine wX ?_)
      by_cases h4 : topL l > yb
      · rw [if_pos (.inr ⟨rfl, h4⟩)]
        (repeat ((refine zY (by omega) ?_); (refine wX ?_)))
        exact aret (VLe.refl _) H.sub ⟨rfl, rfl⟩
      · rw [if_neg (by omega)]
        (refine wX ?_)
        (repeat ((first | refine zN (by omega) ?_ | refine zB H b1 rfl ?_ | (apply zA H; (· repeat first | exact .h | apply AtK.t))); (refine wX ?_)))
        refine acall (sHas (ya, yb) (H.sub _ _ b2) hl) ?_
        rintro _ σ_ ⟨rfl, e_⟩
        obtain rfl := e_.symm
        refine ⟨?_, Ext.refl _⟩
        (refine wX ?_)
        cases hasS (ya, yb) l
        · (refine wX ?_)
          skip
          exact aret (VLe.refl _) H.sub ⟨rfl, rfl⟩
        · (refine wX ?_)
          skip
          exact aret (VLe.refl _) H.sub ⟨rfl, rfl⟩
  · (repeat ((first | refine zY (by omega) ?_ | refine zB H b1 rfl ?_ | (apply zL H; (· repeat first | exact .h | apply AtK.t); (· rfl))); (refine wX ?_)))
    by_cases h2 : yb > e
    · rw [if_pos (.inl ⟨h1, .inl h2⟩)]
      (repeat ((refine zY (by omega) ?_); (refine wX ?_)))
      exact aret (VLe.refl _) H.sub ⟨rfl, rfl⟩
    · (refine wX ?_)
      (repeat ((refine zN (by omega) ?_); (refine wX ?_)))
      cases ends
      · rw [if_neg (by simp; omega)]
        (refine wX ?_)
        (repeat ((first | refine zB H b1 rfl ?_ | (apply zA H; (· repeat first | exact .h | apply AtK.t))); (refine wX ?_)))
        refine acall (sHas (ya, yb) (H.sub _ _ b2) hl) ?_
        rintro _ σ_ ⟨rfl, e_⟩
        obtain rfl := e_.symm
        refine ⟨?_, Ext.refl _⟩
        (refine wX ?_)
        cases hasS (ya, yb) l
        · (refine wX ?_)
          skip
          exact aret (VLe.refl _) H.sub ⟨rfl, rfl⟩
        · (refine wX ?_)
          skip
          exact aret (VLe.refl _) H.sub ⟨rfl, rfl⟩
      · (refine wX ?_)
        (repeat ((first | refine zB H b1 rfl ?_ | (apply zL H; (· repeat first | exact .h | apply AtK.t); (· rfl))); (refine wX ?_)))
        by_cases h3 : yb = e
        · (repeat ((first | refine zN (by omega) ?_ | (apply zL H; (· repeat first | exact .h | apply AtK.t); (· rfl))); (refine wX ?_)))
          refine acall (peTop (H.sub _ _ b1) (H.sub _ _ b2) hl) ?_
          rintro _ σ_ ⟨rfl, e_⟩
          obtain rfl := e_.symm
          refine ⟨?_, Ext.refl _⟩
          (refine wX ?_)
          by_cases h4 : topL l > yb
          · rw [if_pos (.inr ⟨rfl, h4⟩)]
            (repeat ((refine zY (by omega) ?_); (refine wX ?_)))
            exact aret (VLe.refl _) H.sub ⟨rfl, rfl⟩
          · rw [if_neg (by omega)]
            (repeat ((first | refine zN (by omega) ?_ | refine zB H b1 rfl ?_ | (apply zA H; (· repeat first | exact .h | apply AtK.t))); (refine wX ?_)))
            refine acall (sHas (ya, yb) (H.sub _ _ b2) hl) ?_
            rintro _ σ_ ⟨rfl, e_⟩
            obtain rfl := e_.symm
            refine ⟨?_, Ext.refl _⟩
            (refine wX ?_)
            cases hasS (ya, yb) l
            · (refine wX ?_)
              skip
              exact aret (VLe.refl _) H.sub ⟨rfl, rfl⟩
            · (refine wX ?_)
              skip
              exact aret (VLe.refl _) H.sub ⟨rfl, rfl⟩
        · rw [if_pos (.inl ⟨h1, .inr ⟨rfl, h3⟩⟩)]
          (repeat ((refine zY (by omega) ?_); (refine wX ?_)))
          exact aret (VLe.refl _) H.sub ⟨rfl, rfl⟩
end
end Go.Proofs.YtgbpjbpdpgbngaaGreat
/-
  Rows that are stored into, anywhere in a list.
-/
namespace Go.Proofs.YtgbpjbpdpgbngaaGreat
open Go Go.Am

section ops
variable {σb σ : AHeap} {L : List HE}
theorem row_set (H : Hp σb L σ) {xs : List AVal} {k r q : Nat} {y : AVal} {K : AHeap → Prop} (hk : AtK L k (.o r (.cells xs))) (h : q < xs.length) (hy : y.isCell = true)
    (hK : setLK L k (.o r (.cells (xs.set q y))) fun L' => ∀ τ', Hp σb L' τ' → K τ') : AStore σ r (0 + ((q : Nat) : Int).toNat * 1) [y] K := by
  rw [Int.toNat_natCast, Nat.mul_one, Nat.zero_add]
  refine astore (H.get hk.get) (by show q + 1 ≤ _; omega) (by show (y.isCell && true) = true; rw [hy]; rfl) (l := xs.set q y) ?_ ((setLK_spec hK).2 _ (H.set hk.get _))
  unfold splice
  rw [List.set_eq_take_append_cons_drop, if_pos h, List.append_assoc]; rfl
end ops
end Go.Proofs.YtgbpjbpdpgbngaaGreat
/-
  What came in parts: bytes are filled in.
-/
namespace Go.Proofs.YtgbpjbpdpgbngaaGreat
set_option maxRecDepth 20000
open Go Go.Am

/-- A row of bytes that is stored into, or none yet. -/
inductive RB : AVal → List UInt8 → List HE → Prop
  | nil : RB (.slice 1 [] .full) [] []
  | row (r : Nat) (D : List UInt8) : D ≠ [] → RB (.ms r 1 0 D.length) D [.o r (.cells (D.map byteV))]
def BOk (σ : AHeap) (v : AVal) (D : List UInt8) : Prop := (v = .slice 1 [] .full ∧ D = []) ∨ ∃ r, v = .ms r 1 0 D.length ∧ σ r = some (.cells (D.map byteV)) ∧ D ≠ []
theorem RB.dv {σb σ : AHeap} {v : AVal} {D : List UInt8} {E F G : List HE} (h : RB v D E) (H : Hp σb (F ++ (E ++ G)) σ) : BOk σ v D := by
  cases h with
  | nil => exact .inl ⟨rfl, rfl⟩
  | row r D hx => exact .inr ⟨r, rfl, H.ok (.o r (.cells (D.map byteV))) (by simp), hx⟩
theorem RB.isCell {v : AVal} {D : List UInt8} {E : List HE} (h : RB v D E) : v.isCell = true := by cases h <;> rfl
theorem cloneB {σ : AHeap} {v : AVal} {D : List UInt8} (h : BOk σ v D) (hl : D.length ≤ 140737488355328) : ACalls Tryz.prog i_slices_Clone_byte_byte [v] σ fun v' σ' => ∃ E, RB v' D E ∧ Hp σ E σ' := by
  have H := Hp.nil σ
  rcases h with ⟨rfl, rfl⟩ | ⟨r, rfl, hs, hn⟩
  · refine acall_less (CloneM [] .full σ (by simp)) ?_
    rintro _ σ' (⟨_, rfl, rfl⟩ | ⟨h, _⟩)
    · exact ⟨_, _, VLe.refl _, Sub.refl _, [], .nil, H⟩
    · exact absurd rfl h
  · refine km_slices_Clone_byte_byte rfl ?_
    (refine wX ?_)
    refine ⟨⟨_, hs, by simp, ?_⟩⟩
    rw [List.drop_zero, List.take_of_length_le (by simp)]
    have hm : D.map byteV ≠ [] := by simpa using hn
    refine happnew H hm (by rw [List.length_map]; omega) (bytes_ok D) fun r2 τ H => ?_
    rw [List.length_map]
    rw [bytes_flat] at H
    (refine wX ?_)
    exact aret (VLe.refl _) (Sub.refl _) ⟨_, .row r2 D hn, H⟩
/-- Bytes put where there are none. -/
def fillN (l : List Sp) (f : Nat) (d D : List UInt8) : Nat → List UInt8
  | 0 => D
  | k + 1 => if hasS ((f : Int) + (k : Int), (f : Int) + (k : Int) + 1) l = true then fillN l f d D k else (fillN l f d D k).set (f + k) (d[k]?.getD 0)
theorem fillN_len (l : List Sp) (f : Nat) (d D : List UInt8) : ∀ k, (fillN l f d D k).length = D.length
  | 0 => rfl
  | k + 1 => by
    unfold fillN
    split
    · exact fillN_len l f d D k
    · rw [List.length_set]; exact fillN_len l f d D k
def wideB (D : List UInt8) (to : Nat) : List UInt8 := if D.length < to then D ++ List.replicate (to - D.length) 0 else D
theorem wideB_len (D : List UInt8) (to : Nat) : (wideB D to).length = max D.length to := by
  unfold wideB
  split
  · rw [List.length_append, List.length_replicate]; omega
  · omega
def fillB (l : List Sp) (f : Nat) (d D : List UInt8) : List UInt8 := fillN l f d (wideB D (f + d.length)) d.length
theorem fillB_len (l : List Sp) (f : Nat) (d D : List UInt8) : (fillB l f d D).length = max D.length (f + d.length) := by unfold fillB; rw [fillN_len, wideB_len]

section
variable {σb σ : AHeap} {ip is ig : Nat} {e fi : Int} {l : List Sp} {tk : Tok} {v : AVal} {D : List UInt8} {E G : List HE}
set_option maxHeartbeats 2000000 in
theorem peFill (h : RB v D E) (H : Hp σb (E ++ (.o ip (.cells (peC v is e ig fi)) :: .o is (.cells [spL tk l]) :: G)) σ) (f : Nat) (d : List UInt8) (hd : d ≠ []) (hf : f + d.length ≤ 1000000) (hD : D.length ≤ 1000000) (hl : l.length ≤ 1000000) :
    ACalls Tryz.prog i_rxbuf_piece_fill [.ptr ip 0, i64v f, sl .none d] σ fun r σ' => r = .tup [] ∧ ∃ v' E', RB v' (fillB l f d D) E' ∧ Hp σb (E' ++ (.o ip (.cells (peC v' is e ig fi)) :: .o is (.cells [spL tk l]) :: G)) σ' := by
  have hdl : d.length ≠ 0 := by simpa using hd
  refine km_rxbuf_piece_fill rfl ?_
  (refine wX ?_)
  (repeat ((first | refine zI (by omega) ?_ | rw [List.length_map]); (refine wX ?_)))
  obtain ⟨D1, hD1⟩ : ∃ D1, D1 = wideB D (f + d.length) := ⟨_, rfl⟩
  have hl1 : D1.length = max D.length (f + d.length) := by rw [hD1]; exact wideB_len _ _
  have hD1n : D1 ≠ [] := fun h => by rw [h] at hl1; simp at hl1; omega
  unfold fillB
  rw [← hD1]
  by_cases hlt : D.length < f + d.length
  case' pos =>
    unfold wideB at hD1
    rw [if_pos hlt] at hD1
    cases h
    case' nil =>
      replace H : Hp σb (.o ip (.cells (peC (.slice 1 [] .full) is e ig fi)) :: .o is (.cells [spL tk l]) :: G) σ := H
      (repeat ((first | refine zI (by omega) ?_ | refine zY (by omega) ?_ | (apply zL H; (· repeat first | exact .h | apply AtK.t); (· rfl))); (refine wX ?_)))
      have e0 : (((f : Nat) : Int) + ((d.length : Nat) : Int) - (([] : List AVal).length : Nat)).toNat = f + d.length - ([] : List UInt8).length := by simp; omega
      rw [e0]
      have e1 : List.replicate (f + d.length - ([] : List UInt8).length) (AVal.v (.int .u8 0)) = D1.map byteV := by rw [hD1, List.nil_append, List.map_replicate]; rfl
      rw [e1]
      refine ⟨by simp; omega, by simp; omega, by simp; omega, .inr (happnew H (by simpa using hD1n) (by rw [List.length_map]; omega) (bytes_ok D1) fun r τ H => ?_)⟩
      rw [bytes_flat] at H
      rw [List.length_map]
      (refine wX ?_)
    case' row r hx =>
      replace H : Hp σb (.o r (.cells (D.map byteV)) :: .o ip (.cells (peC (.ms r 1 0 D.length) is e ig fi)) :: .o is (.cells [spL tk l]) :: G) σ := H
      (repeat ((first | refine zI (by omega) ?_ | refine zY (by omega) ?_ | (apply zL H; (· repeat first | exact .h | apply AtK.t); (· rfl))); (refine wX ?_)))
      have e0 : (((f : Nat) : Int) + ((d.length : Nat) : Int) - (D.length : Nat)).toNat = f + d.length - D.length := by omega
      rw [e0]
      have e1 : List.replicate (f + d.length - D.length) (AVal.v (.int .u8 0)) = (List.replicate (f + d.length - D.length) (0 : UInt8)).map byteV := by rw [List.map_replicate]; rfl
      rw [e1]
      refine ⟨by omega, by omega, by omega, happm H (k := 0) rfl (by simp) (by simp; omega) (bytes_ok _) fun r2 τ H => ?_⟩
      rw [bytes_flat, ← List.map_append, ← hD1] at H
      rw [show D.length + (List.map byteV (List.replicate (f + d.length - D.length) (0 : UInt8))).length = D1.length by rw [hD1]; simp]
      clear e1 e0
      generalize r2 = r at *
      (refine wX ?_)
    all_goals
      apply zS H
      · (repeat first | exact .h | apply AtK.t)
      · rfl
      (conv => whnf)
      clear H
      intro τ H
      (refine wX ?_)
      replace H : Hp σb (.o r (.cells (D1.map byteV)) :: .o ip (.cells (peC (.ms r 1 0 D1.length) is e ig fi)) :: .o is (.cells [spL tk l]) :: G) τ := H
  case' neg =>
    unfold wideB at hD1
    rw [if_neg hlt] at hD1
    subst hD1
    cases h
    case' nil => exact absurd rfl hD1n
    case' row r hx =>
      replace H : Hp σb (.o r (.cells (D1.map byteV)) :: .o ip (.cells (peC (.ms r 1 0 D1.length) is e ig fi)) :: .o is (.cells [spL tk l]) :: G) σ := H
      generalize σ = τ at *
  all_goals
    (repeat ((first | refine zN (by omega) ?_ | (apply zL H; (· repeat first | exact .h | apply AtK.t); (· rfl)) | rw [List.length_map]); (refine wX ?_)))
    refine aloop (α := Nat × AHeap) (fun y => [(s37, i64v y.1)]) (fun y => y.2) (fun y => y.1 ≤ d.length ∧ Hp σb (.o r (.cells ((fillN l f d D1 y.1).map byteV)) :: .o ip (.cells (peC (.ms r 1 0 D1.length) is e ig fi)) :: .o is (.cells [spL tk l]) :: G) y.2) (fun y => d.length - y.1)
      (0, τ) ⟨Nat.zero_le _, H⟩ (Sub.refl _) ?_ ?_
    · (refine wX ?_)
      exact elX
    clear H
    rintro ⟨k, υ⟩ ⟨hk, H⟩
    dsimp only at hk H ⊢
    (refine wX ?_)
    by_cases h : k < d.length
    · (repeat ((refine zY (by omega) ?_); (refine wX ?_)))
      refine aget (by omega) (get_bytes h) ?_
      (refine wX ?_)
      refine acell rfl ?_
      (refine wX ?_)
      (repeat ((first | refine zI (by omega) ?_ | (apply zL H; (· repeat first | exact .h | apply AtK.t); (· rfl))); (refine wX ?_)))
      refine acall (sHas ((f : Int) + (k : Int), (f : Int) + (k : Int) + 1) (H.get (k := 2) rfl) hl) ?_
      rintro _ σ_ ⟨rfl, e_⟩
      obtain rfl := e_.symm
      refine ⟨?_, Ext.refl _⟩
      (refine wX ?_)
      have hs : fillN l f d D1 (k + 1) = if hasS ((f : Int) + (k : Int), (f : Int) + (k : Int) + 1) l = true then fillN l f d D1 k else (fillN l f d D1 k).set (f + k) (d[k]?.getD 0) := rfl
      rcases (show hasS ((f : Int) + (k : Int), (f : Int) + (k : Int) + 1) l = false ∨ hasS ((f : Int) + (k : Int), (f : Int) + (k : Int) + 1) l = true by cases hasS ((f : Int) + (k : Int), (f : Int) + (k : Int) + 1) l <;> simp) with hh | hh
      · rw [hh, if_neg (by simp)] at hs
        rw [hh]
        (refine wX ?_)
        (repeat ((first | refine zI (by omega) ?_ | refine zX (by omega) (by omega) ?_ | (apply zL H; (· repeat first | exact .h | apply AtK.t); (· rfl))); (refine wX ?_)))
        rw [List.getElem?_eq_getElem h, Option.getD_some] at hs
        have e2 : 0 + ((f : Int) + (k : Int)).toNat * 1 = 0 + ((f + k : Nat) : Int).toNat * 1 := by omega
        rw [e2]
        refine row_set H .h (by rw [List.length_map, fillN_len]; omega) rfl ?_
        (conv => whnf)
        clear H
        intro υ H
        rw [← List.map_set, ← hs] at H
        (refine wX ?_)
        (repeat ((refine zI (by omega) ?_); (refine wX ?_)))
        refine ⟨(k + 1, υ), ⟨h, H⟩, by dsimp only; omega, Sub.refl _, ?_⟩
        (refine wX ?_)
        exact elX
      · rw [hh, if_pos rfl] at hs
        rw [hh]
        (refine wX ?_)
        (repeat ((refine zI (by omega) ?_); (refine wX ?_)))
        refine ⟨(k + 1, υ), ⟨h, by rw [hs]; exact H⟩, by dsimp only; omega, Sub.refl _, ?_⟩
        (refine wX ?_)
        exact elX
    · obtain rfl : k = d.length := by omega
      (repeat ((refine zN (by omega) ?_); (refine wX ?_)))
      refine aret (VLe.refl _) (Sub.refl _) ⟨rfl, .ms r 1 0 D1.length, [.o r (.cells ((fillN l f d D1 d.length).map byteV))], ?_, H⟩
      have := RB.row r (fillN l f d D1 d.length) (fun h => by have := fillN_len l f d D1 d.length; rw [h] at this; simp at this; omega)
      rw [fillN_len] at this
      exact this
end
end Go.Proofs.YtgbpjbpdpgbngaaGreat
/-
  What came in parts: may a packet come; where fields begin and end is noted.
-/
namespace Go.Proofs.YtgbpjbpdpgbngaaGreat
set_option maxRecDepth 20000
open Go Go.Am

set_option maxHeartbeats 2000000 in
theorem buRight (p : Pk) (σ : AHeap) (hl : p.fs.length ≤ 1000) (ht : total p.fs ≤ 140737488355328) : ACalls Tryz.prog i_rxbuf_right [amV p] σ fun v σ' => v = boolv (rightB p) ∧ σ' = σ := by
  refine k_rxbuf_right rfl ?_
  have H := Hp.nil σ
  (refine wX ?_)
  refine hnew H rfl ?_
  clear H
  intro i1 τ H
  (refine wX ?_)
  (repeat ((first | (apply zL H; (· repeat first | exact .h | apply AtK.t); (· rfl)) | rw [List.length_map]); (refine wX ?_)))
  unfold rightB
  have no : ∀ {x : Bool}, x = true → (!x && (decide (0 ≤ p.off) && decide (p.off ≤ 4000) && (p.part || decide (p.off = 0)) && decide ((total p.fs : Int) ≤ 4000 - p.off))) = false := fun h => by rw [h]; rfl
  by_cases a1 : p.fs.length < 1
  · rw [no (by rw [decide_eq_true a1]; rfl)]
    (repeat ((refine zY (by omega) ?_); (refine wX ?_)))
    exact aret (VLe.refl _) H.sub ⟨rfl, rfl⟩
  (repeat ((refine zN (by omega) ?_); (refine wX ?_)))
  by_cases a2 : p.fs.length > 24
  · rw [no (by rw [decide_eq_true a2]; simp)]
    (repeat ((refine zY (by omega) ?_); (refine wX ?_)))
    exact aret (VLe.refl _) H.sub ⟨rfl, rfl⟩
  (repeat ((first | refine zN (by omega) ?_ | (apply zL H; (· repeat first | exact .h | apply AtK.t); (· rfl))); (refine wX ?_)))
  refine acall (buContains p.fs .none τ (by omega)) ?_
  rintro _ σ_ ⟨rfl, e_⟩
  obtain rfl := e_.symm
  refine ⟨?_, Ext.refl _⟩
  (refine wX ?_)
  rcases (show hollowB p.fs = false ∨ hollowB p.fs = true by cases hollowB p.fs <;> simp) with a3 | a3
  rotate_left
  · rw [no (by rw [a3]; simp), a3]
    (refine wX ?_)
    skip
    exact aret (VLe.refl _) H.sub ⟨rfl, rfl⟩
  rw [a3]
  (refine wX ?_)
  (repeat (((apply zL H; (· repeat first | exact .h | apply AtK.t); (· rfl))); (refine wX ?_)))
  by_cases a4 : p.fi < 0
  · rw [no (by rw [decide_eq_true a4]; simp)]
    (repeat ((refine zY (by omega) ?_); (refine wX ?_)))
    exact aret (VLe.refl _) H.sub ⟨rfl, rfl⟩
  (repeat ((first | refine zN (by omega) ?_ | (apply zL H; (· repeat first | exact .h | apply AtK.t); (· rfl))); (refine wX ?_)))
  by_cases a5 : p.fi > 3
  · rw [no (by rw [decide_eq_true a5]; simp)]
    (repeat ((refine zY (by omega) ?_); (refine wX ?_)))
    exact aret (VLe.refl _) H.sub ⟨rfl, rfl⟩
  (repeat ((first | refine zN (by omega) ?_ | (apply zL H; (· repeat first | exact .h | apply AtK.t); (· rfl))); (refine wX ?_)))
  rw [decide_eq_false a1, decide_eq_false a2, decide_eq_false a4, decide_eq_false a5, show (!(false || false || false || false || false)) = true from rfl, Bool.true_and]
  by_cases q1 : 0 ≤ p.off
  case neg =>
    rw [decide_eq_false q1]
    (repeat ((refine zN (by omega) ?_); (refine wX ?_)))
    exact aret (VLe.refl _) H.sub ⟨rfl, rfl⟩
  rw [decide_eq_true q1]
  (repeat ((first | refine zY (by omega) ?_ | (apply zL H; (· repeat first | exact .h | apply AtK.t); (· rfl))); (refine wX ?_)))
  by_cases q2 : p.off ≤ 4000
  case neg =>
    rw [decide_eq_false q2]
    (repeat ((refine zN (by omega) ?_); (refine wX ?_)))
    exact aret (VLe.refl _) H.sub ⟨rfl, rfl⟩
  rw [decide_eq_true q2]
  (repeat ((first | refine zY (by omega) ?_ | (apply zL H; (· repeat first | exact .h | apply AtK.t); (· rfl))); (refine wX ?_)))
  rcases (show p.part = false ∨ p.part = true by cases p.part <;> simp) with q3 | q3
  · refine abr_false q3 ?_
    rw [q3]
    (refine wX ?_)
    (repeat (((apply zL H; (· repeat first | exact .h | apply AtK.t); (· rfl))); (refine wX ?_)))
    by_cases q4 : p.off = 0
    case neg =>
      rw [decide_eq_false q4]
      (refine wX ?_)
      skip
      exact aret (VLe.refl _) H.sub ⟨rfl, rfl⟩
    rw [decide_eq_true q4]
    (refine wX ?_)
    (repeat ((first | refine zI (by omega) ?_ | (apply zL H; (· repeat first | exact .h | apply AtK.t); (· rfl)) | (apply zA H; (· repeat first | exact .h | apply AtK.t))); (refine wX ?_)))
    refine acall (aData p τ hl ht) ?_
    rintro _ σ_ ⟨rfl, e_⟩
    obtain rfl := e_.symm
    refine ⟨?_, Ext.refl _⟩
    (refine wX ?_)
    (repeat ((rw [List.length_map]); (refine wX ?_)))
    exact aret (VLe.refl _) H.sub ⟨by unfold total; simp, rfl⟩
  · refine abr_true q3 ?_
    rw [q3]
    (refine wX ?_)
    (repeat ((first | refine zI (by omega) ?_ | (apply zL H; (· repeat first | exact .h | apply AtK.t); (· rfl)) | (apply zA H; (· repeat first | exact .h | apply AtK.t))); (refine wX ?_)))
    refine acall (aData p τ hl ht) ?_
    rintro _ σ_ ⟨rfl, e_⟩
    obtain rfl := e_.symm
    refine ⟨?_, Ext.refl _⟩
    (refine wX ?_)
    (repeat ((rw [List.length_map]); (refine wX ?_)))
    exact aret (VLe.refl _) H.sub ⟨by unfold total; simp, rfl⟩

/-- Where fields begin and end. -/
abbrev trueV : AVal := boolv true
def note1 (p : Pk) (em : List (Int × AVal)) : List (Int × AVal) := if p.off = 0 then em else if bitsOp .and .i64 p.fi 2 = 0 then mapSet em p.off trueV else em
def noteN (p : Pk) (em : List (Int × AVal)) : Nat → List (Int × AVal)
  | 0 => em
  | k + 1 => if k > 0 then mapSet (noteN p em k) (p.off + (total (p.fs.take k) : Int)) trueV else noteN p em k
def noteM (p : Pk) (ends : Bool) (em : List (Int × AVal)) : List (Int × AVal) :=
  if ends = true then noteN p (note1 p em) p.fs.length else if bitsOp .and .i64 p.fi 1 = 0 then mapSet (noteN p (note1 p em) p.fs.length) (p.off + (total p.fs : Int)) trueV else noteN p (note1 p em) p.fs.length
def noteF1 (p : Pk) (fi : Int) : Int := if p.off = 0 then bitsOp .or .i64 fi (bitsOp .and .i64 p.fi 2) else fi
def noteF (p : Pk) (ends : Bool) (fi : Int) : Int := if ends = true then bitsOp .or .i64 (noteF1 p fi) (bitsOp .and .i64 p.fi 1) else noteF1 p fi
def noteE (p : Pk) (ends : Bool) (e : Int) : Int := if ends = true then p.off + (total p.fs : Int) else e

section
variable {σb σ : AHeap} {ip is ig : Nat} {e fi : Int} {l : List Sp} {tk : Tok} {v : AVal} {em : List (Int × AVal)} {G : List HE}
set_option maxHeartbeats 2000000 in
theorem peNote (H : Hp σb (.o ip (.cells (peC v is e ig fi)) :: .o ig (.map em) :: G) σ) (hv : v.isCell = true) (p : Pk) (ends : Bool) (ho : 0 ≤ p.off ∧ p.off ≤ 1000000) (hn : p.fs.length ≤ 1000) (ht : total p.fs ≤ 1000000) :
    ACalls Tryz.prog i_rxbuf_piece_note [.ptr ip 0, amV p, boolv ends] σ fun r σ' => r = .tup [] ∧ Hp σb (.o ip (.cells (peC v is (noteE p ends e) ig (noteF p ends fi))) :: .o ig (.map (noteM p ends em)) :: G) σ' := by
  refine k_rxbuf_piece_note rfl ?_
  (refine wX ?_)
  refine hnew H rfl ?_
  clear H
  intro i4 τ H
  (refine wX ?_)
  (repeat (((apply zL H; (· repeat first | exact .h | apply AtK.t); (· rfl))); (refine wX ?_)))
  unfold noteE noteF noteM
  obtain ⟨m1, hm1⟩ : ∃ m1, m1 = note1 p em := ⟨_, rfl⟩
  rw [← hm1]
  have hat : ∀ k, total (p.fs.take k) ≤ 1000000 := fun k => Nat.le_trans (total_take_le _ _) ht
  by_cases h0 : p.off = 0
  case' pos =>
    have e1 : m1 = em := by rw [hm1]; unfold note1; rw [if_pos h0]
    have e2 : noteF1 p fi = bitsOp .or .i64 fi (bitsOp .and .i64 p.fi 2) := by unfold noteF1; rw [if_pos h0]
    rw [e2]
    (repeat ((first | refine zY (by omega) ?_ | (apply zL H; (· repeat first | exact .h | apply AtK.t); (· rfl))); (refine wX ?_)))
    refine abits_eq rfl ?_
    (refine wX ?_)
    skip
    refine abits_eq rfl ?_
    (refine wX ?_)
    (repeat ((first | (apply zL H; (· repeat first | exact .h | apply AtK.t); (· rfl)) | (apply zS H; (· repeat first | exact .h | apply AtK.t); (· rfl); (conv => whnf); clear H; intro τ H) | rw [List.length_map]); (refine wX ?_)))
    rw [← e1] at H
    clear e1 e2
    generalize bitsOp .or .i64 fi (bitsOp .and .i64 p.fi 2) = fi1 at *
  case' neg =>
    have e2 : noteF1 p fi = fi := by unfold noteF1; rw [if_neg h0]
    rw [e2]
    (repeat ((first | refine zN (by omega) ?_ | (apply zL H; (· repeat first | exact .h | apply AtK.t); (· rfl))); (refine wX ?_)))
    refine abits_eq rfl ?_
    (refine wX ?_)
    skip
    by_cases hb : bitsOp .and .i64 p.fi 2 = 0
    case' pos =>
      have e1 : m1 = mapSet em p.off trueV := by rw [hm1]; unfold note1; rw [if_neg h0, if_pos hb]
      (repeat ((first | refine zY (by omega) ?_ | (apply zL H; (· repeat first | exact .h | apply AtK.t); (· rfl))); (refine wX ?_)))
      apply zMs H
      · (repeat first | exact .h | apply AtK.t)
      · rfl
      (conv => whnf)
      clear H
      intro τ H
      (refine wX ?_)
      rw [← e1] at H
      clear e1 e2
      generalize fi = fi1 at *
    case' neg =>
      have e1 : m1 = em := by rw [hm1]; unfold note1; rw [if_neg h0, if_neg hb]
      (repeat ((first | refine zN (by omega) ?_ | (apply zL H; (· repeat first | exact .h | apply AtK.t); (· rfl)) | rw [List.length_map]); (refine wX ?_)))
      rw [← e1] at H
      clear e1 e2
      generalize fi = fi1 at *
  all_goals
    (repeat ((first | (apply zL H; (· repeat first | exact .h | apply AtK.t); (· rfl)) | rw [List.length_map]); (refine wX ?_)))
    refine aloop (α := Nat × AHeap) (fun y => [(s35, i64v y.1), (s6, i64v (p.off + (total (p.fs.take y.1) : Int)))]) (fun y => y.2) (fun y => y.1 ≤ p.fs.length ∧ Hp σb (.o i4 (.cells (amC p)) :: .o ip (.cells (peC v is e ig fi1)) :: .o ig (.map (noteN p m1 y.1)) :: G) y.2) (fun y => p.fs.length - y.1)
      (0, τ) ⟨Nat.zero_le _, H⟩ (Sub.refl _) ?_ ?_
    · (refine wX ?_)
      rw [show p.off + (total (p.fs.take 0) : Int) = p.off by rw [List.take_zero]; show p.off + ((0 : Nat) : Int) = _; omega]
      exact elX
    clear H
    rintro ⟨k, υ⟩ ⟨hk, H⟩
    dsimp only at hk H ⊢
    have hak := hat k
    (refine wX ?_)
    by_cases h : k < p.fs.length
    · (repeat ((refine zY (by omega) ?_); (refine wX ?_)))
      refine aget (by omega) (get_lists h) ?_
      (refine wX ?_)
      refine acell rfl ?_
      (refine wX ?_)
      skip
      have hs : noteN p m1 (k + 1) = if k > 0 then mapSet (noteN p m1 k) (p.off + (total (p.fs.take k) : Int)) trueV else noteN p m1 k := rfl
      have hal := hat (k + 1)
      have hts := total_take_succ p.fs k h
      by_cases h0 : k > 0
      case' pos =>
        rw [if_pos h0] at hs
        (repeat ((first | refine zY (by omega) ?_ | (apply zL H; (· repeat first | exact .h | apply AtK.t); (· rfl))); (refine wX ?_)))
        apply zMs H
        · (repeat first | exact .h | apply AtK.t)
        · rfl
        (conv => whnf)
        clear H
        intro τ H
        (refine wX ?_)
        rw [← hs] at H
      case' neg =>
        rw [if_neg h0] at hs
        rw [← hs] at H
      all_goals
        (repeat ((first | refine zI (by omega) ?_ | refine zN (by omega) ?_ | rw [List.length_map]); (refine wX ?_)))
        rw [show p.off + (total (p.fs.take k) : Int) + (p.fs[k].length : Int) = p.off + (total (p.fs.take (k + 1)) : Int) by omega]
        first
          | (refine ⟨(k + 1, υ), ⟨h, H⟩, by dsimp only; omega, Sub.refl _, ?_⟩; (refine wX ?_); exact elX)
          | (refine ⟨(k + 1, τ), ⟨h, H⟩, by dsimp only; omega, Sub.refl _, ?_⟩; (refine wX ?_); exact elX)
    · obtain rfl : k = p.fs.length := by omega
      rw [List.take_length]
      rw [List.take_length] at hak
      (repeat ((refine zN (by omega) ?_); (refine wX ?_)))
      cases ends
      · (refine wX ?_)
        (repeat (((apply zL H; (· repeat first | exact .h | apply AtK.t); (· rfl))); (refine wX ?_)))
        refine abits_eq rfl ?_
        (refine wX ?_)
        rw [if_neg (by simp), if_neg (by simp), if_neg (by simp)]
        by_cases hb : bitsOp .and .i64 p.fi 1 = 0
        · rw [if_pos hb]
          (repeat ((first | refine zY (by omega) ?_ | (apply zL H; (· repeat first | exact .h | apply AtK.t); (· rfl))); (refine wX ?_)))
          apply zMs H
          · (repeat first | exact .h | apply AtK.t)
          · rfl
          (conv => whnf)
          clear H
          intro τ H
          (refine wX ?_)
          exact aret (VLe.refl _) (Sub.refl _) ⟨rfl, H.tail⟩
        · rw [if_neg hb]
          (repeat ((refine zN (by omega) ?_); (refine wX ?_)))
          exact aret (VLe.refl _) (Sub.refl _) ⟨rfl, H.tail⟩
      · (refine wX ?_)
        (repeat ((first | (apply zL H; (· repeat first | exact .h | apply AtK.t); (· rfl)) | (apply zS H; (· repeat first | exact .h | apply AtK.t); (· rfl); (conv => whnf); clear H; intro τ H)); (refine wX ?_)))
        refine abits_eq rfl ?_
        (refine wX ?_)
        skip
        refine abits_eq rfl ?_
        (refine wX ?_)
        (repeat (((apply zS H; (· repeat first | exact .h | apply AtK.t); (· rfl); (conv => whnf); clear H; intro τ H)); (refine wX ?_)))
        exact aret (VLe.refl _) (Sub.refl _) ⟨rfl, H.tail⟩
end
end Go.Proofs.YtgbpjbpdpgbngaaGreat
/-
  What came in parts: a packet that comes.
-/
namespace Go.Proofs.YtgbpjbpdpgbngaaGreat
set_option maxRecDepth 20000
open Go Go.Am

theorem Hp.mid {σb σ : AHeap} {A B C : List HE} (H : Hp σb (A ++ (B ++ C)) σ) : Hp σb (B ++ (A ++ C)) σ :=
  H.perm (by rw [← List.append_assoc, ← List.append_assoc]; exact List.perm_append_comm.append_right _)
theorem Hp.mid2 {σb σ : AHeap} {A B C D : List HE} (H : Hp σb (A ++ (B ++ (C ++ D))) σ) : Hp σb (A ++ (C ++ (B ++ D))) σ :=
  H.perm (List.Perm.append_left A (by rw [← List.append_assoc, ← List.append_assoc]; exact List.perm_append_comm.append_right _))
theorem Hp.rest {σb σ : AHeap} {A L : List HE} (H : Hp σb (A ++ L) σ) : Hp σb L σ := (H.perm List.perm_append_comm).left
theorem RB.cells1 {v : AVal} {D : List UInt8} {E : List HE} (h : RB v D E) : v.cells = [v] := by cases h <;> rfl
theorem mapSet_same : ∀ {es : List (Int × AVal)} {n : Int} {x : AVal}, es.find? (fun e => e.1 == n) = some (n, x) → mapSet es n x = es
  | [], _, _, h => by simp at h
  | (m, y) :: r, n, x, h => by
    rw [List.find?_cons] at h
    by_cases hm : m = n
    · subst hm
      simp at h
      subst h
      simp [mapSet]
    · have hb : (m == n) = false := by simp [hm]
      dsimp only at h
      rw [hb] at h
      simp [mapSet, hm, mapSet_same (es := r) h]
theorem mapSet_new {es : List (Int × AVal)} {n : Int} {x : AVal} (h : es.find? (fun e => e.1 == n) = none) : mapSet es n x = es ++ [(n, x)] := by
  induction es with
  | nil => rfl
  | cons a r ih =>
    rw [List.find?_cons] at h
    obtain ⟨m, y⟩ := a
    by_cases hm : m = n
    · subst hm; simp at h
    · have hb : (m == n) = false := by simp [hm]
      dsimp only at h
      rw [hb] at h
      simp [mapSet, hm, ih h]
def endsB (p : Pk) : Bool := !p.part || p.last
/-- A packet's bytes, as a span. -/
def spanP (p : Pk) : Sp := (p.off, p.off + (total p.fs : Int))
/-- What Put says, of what is there of a piece. -/
def putK (p : Pk) (l : List Sp) (e : Int) : Int :=
  if rightB p = false then 1 else if fitsC l e (spanP p) (endsB p) ≠ 0 then fitsC l e (spanP p) (endsB p) else addC (spanP p) l
theorem right_ok {p : Pk} (h : rightB p = true) : 1 ≤ p.fs.length ∧ p.fs.length ≤ 24 ∧ (∀ f ∈ p.fs, f ≠ []) ∧ 0 ≤ p.fi ∧ p.fi ≤ 3 ∧ 0 ≤ p.off ∧ p.off ≤ 4000 ∧ (p.part = true ∨ p.off = 0) ∧ p.off + (total p.fs : Int) ≤ 4000 := by
  unfold rightB at h
  simp only [Bool.and_eq_true, Bool.not_eq_true', Bool.or_eq_false_iff, decide_eq_false_iff_not, decide_eq_true_eq, Bool.or_eq_true] at h
  obtain ⟨⟨⟨⟨⟨h1, h2⟩, h3⟩, h4⟩, h5⟩, ⟨⟨h6, h7⟩, h8⟩, h9⟩ := h
  refine ⟨by omega, by omega, fun f hf e => ?_, by omega, by omega, h6, h7, h8, by omega⟩
  have : hollowB p.fs = true := List.any_eq_true.2 ⟨f, hf, decide_eq_true e⟩
  rw [this] at h3; cases h3
theorem right_pos {p : Pk} (h : rightB p = true) : 1 ≤ total p.fs := by
  obtain ⟨h1, _, h3, _⟩ := right_ok h
  have h4 := total_get (l := p.fs) (i := 0) (by omega)
  have h5 : p.fs[0].length ≠ 0 := fun e => h3 _ (List.getElem_mem (by omega)) (List.length_eq_zero_iff.1 e)
  omega

section
variable {σb σ : AHeap} {ib im ip is ig : Nat} {e fi : Int} {l : List Sp} {tk : Tok} {v : AVal} {D : List UInt8} {em es : List (Int × AVal)} {E G : List HE}
theorem peFillA (h : RB v D E) (H : Hp σb (.o ip (.cells (peC v is e ig fi)) :: .o is (.cells [spL tk l]) :: (E ++ G)) σ) (f : Nat) (off : Int) (ho : off = f) (d : List UInt8) (hd : d ≠ []) (hf : f + d.length ≤ 1000000) (hD : D.length ≤ 1000000) (hl : l.length ≤ 1000000) :
    ACalls Tryz.prog i_rxbuf_piece_fill [.ptr ip 0, i64v off, sl .none d] σ fun r σ' => r = .tup [] ∧ ∃ v' E', RB v' (fillB l f d D) E' ∧ Hp σb (.o ip (.cells (peC v' is e ig fi)) :: .o is (.cells [spL tk l]) :: (E' ++ G)) σ' := by
  subst ho
  refine acall_less (peFill h (Hp.mid (A := [.o ip (.cells (peC v is e ig fi)), .o is (.cells [spL tk l])]) H) f d hd hf hD hl) ?_
  rintro _ σ' ⟨rfl, v', E', h', H'⟩
  exact ⟨_, _, VLe.refl _, Sub.refl _, rfl, v', E', h', Hp.mid (B := [.o ip (.cells (peC v' is e ig fi)), .o is (.cells [spL tk l])]) H'⟩

set_option maxHeartbeats 8000000 in
theorem buPutOld (h : RB v D E) (H : Hp σb (.o ip (.cells (peC v is e ig fi)) :: .o is (.cells [spL tk l]) :: .o ig (.map em) :: .o ib (.cells (buC im)) :: .o im (.map es) :: (E ++ G)) σ) (p : Pk) (he : es.find? (fun e => e.1 == p.sn) = some (p.sn, .ptr ip 0)) (hs : SOk l)
    (hD : D.length ≤ 1000000) (hl : p.fs.length ≤ 1000) (ht : total p.fs ≤ 1000000) :
    ACalls Tryz.prog i_rxbuf_Buffer_Put [.ptr ib 0, amV p] σ fun r σ' => r = i64v (putK p l e) ∧
      ((putK p l e ≠ 0 ∧ ∃ u, Hp σb (.o ip (.cells (peC v is e ig fi)) :: .o is (.cells [spL u l]) :: .o ig (.map em) :: .o ib (.cells (buC im)) :: .o im (.map es) :: (E ++ G)) σ') ∨
       (putK p l e = 0 ∧ ∃ v2 E2 u, RB v2 (fillB l p.off.toNat p.fs.flatten D) E2 ∧ Hp σb (.o ip (.cells (peC v2 is (noteE p (endsB p) e) ig (noteF p (endsB p) fi))) :: .o is (.cells [spL u (addS (spanP p) l)]) :: .o ig (.map (noteM p (endsB p) em)) :: .o ib (.cells (buC im)) :: .o im (.map es) :: (E2 ++ G)) σ')) := by
  refine k_rxbuf_Buffer_Put rfl ?_
  (refine wX ?_)
  refine hnew H rfl ?_
  clear H
  intro i3 τ H
  (refine wX ?_)
  refine acall (buMade (H.get (k := 4) rfl)) ?_
  rintro _ σ_ ⟨rfl, e_⟩
  obtain rfl := e_.symm
  refine ⟨?_, Ext.refl _⟩
  (refine wX ?_)
  (repeat (((apply zA H; (· repeat first | exact .h | apply AtK.t))); (refine wX ?_)))
  refine acall (buRight p τ hl (by omega)) ?_
  rintro _ σ_ ⟨rfl, e_⟩
  obtain rfl := e_.symm
  refine ⟨?_, Ext.refl _⟩
  (refine wX ?_)
  rcases (show rightB p = false ∨ rightB p = true by cases rightB p <;> simp) with hr | hr
  · have hk : putK p l e = 1 := by unfold putK; rw [if_pos hr]
    rw [hr]
    (refine wX ?_)
    skip
    exact aret (VLe.refl _) (Sub.refl _) ⟨by rw [hk], .inl ⟨by rw [hk]; decide, ⟨tk, H.tail⟩⟩⟩
  rw [hr]
  obtain ⟨g1, g2, g3, g4, g5, g6, g7, g8, g9⟩ := right_ok hr
  have gp := right_pos hr
  have hdn : p.fs.flatten ≠ [] := fun h => by have : total p.fs = 0 := by unfold total; rw [h]; rfl
                                              omega
  have htl : p.fs.flatten.length = total p.fs := rfl
  (refine wX ?_)
  (repeat (((apply zA H; (· repeat first | exact .h | apply AtK.t))); (refine wX ?_)))
  refine acall (aData p τ hl (by omega)) ?_
  rintro _ σ_ ⟨rfl, e_⟩
  obtain rfl := e_.symm
  refine ⟨?_, Ext.refl _⟩
  (refine wX ?_)
  (repeat ((first | refine zI (by omega) ?_ | (apply zL H; (· repeat first | exact .h | apply AtK.t); (· rfl)) | rw [List.length_map]); (refine wX ?_)))
  refine hnew H rfl ?_
  clear H
  intro i6 τ H
  (refine wX ?_)
  (repeat ((first | (apply zL H; (· repeat first | exact .h | apply AtK.t); (· rfl)) | (apply zS H; (· repeat first | exact .h | apply AtK.t); (· rfl); (conv => whnf); clear H; intro τ H)); (refine wX ?_)))
  rcases (show p.part = false ∨ p.part = true by cases p.part <;> simp) with hp | hp
  · have hen : endsB p = true := by unfold endsB; rw [hp]; rfl
    refine abr_true (show (!p.part) = true by rw [hp]; rfl) ?_
    (refine wX ?_)
    (repeat (((apply zL H; (· repeat first | exact .h | apply AtK.t); (· rfl))); (refine wX ?_)))
    refine hlook H (k := 6) rfl ?_
    rw [he, Option.map_some, Option.getD_some]
    (refine wX ?_)
    (repeat (((apply zA H; (· repeat first | exact .h | apply AtK.t))); (refine wX ?_)))
    replace H := Hp.mid (A := [.o i6 (.cells [i64v p.off, i64v (p.off + (total p.fs : Int))]), .o i3 (.cells (amC p))]) (B := [.o ip (.cells (peC v is e ig fi)), .o is (.cells [spL tk l]), .o ig (.map em)]) (C := .o ib (.cells (buC im)) :: .o im (.map es) :: (E ++ G)) H
    replace H : Hp σb (.o ip (.cells (peC v is e ig fi)) :: .o is (.cells [spL tk l]) :: .o ig (.map em) :: .o i6 (.cells [i64v p.off, i64v (p.off + (total p.fs : Int))]) :: .o i3 (.cells (amC p)) :: .o ib (.cells (buC im)) :: .o im (.map es) :: (E ++ G)) τ := H
    refine acall (peFits (H.get (k := 0) rfl) (H.get (k := 1) rfl) (by have := hs.k; omega) (spanP p) true) ?_
    rintro _ σ_ ⟨rfl, e_⟩
    obtain rfl := e_.symm
    refine ⟨?_, Ext.refl _⟩
    (refine wX ?_)
    have hk : putK p l e = if fitsC l e (spanP p) true ≠ 0 then fitsC l e (spanP p) true else addC (spanP p) l := by unfold putK; rw [if_neg (by rw [hr]; simp), hen]
    by_cases hc : fitsC l e (spanP p) true = 0
    case neg =>
      rw [if_pos hc] at hk
      (repeat ((refine zY (by omega) ?_); (refine wX ?_)))
      exact aret (VLe.refl _) (Sub.refl _) ⟨by rw [hk], .inl ⟨by rw [hk]; exact hc, ⟨tk, Hp.rest (A := [.o i6 (.cells [i64v p.off, i64v (p.off + (total p.fs : Int))]), .o i3 (.cells (amC p))]) (Hp.mid (A := [.o ip (.cells (peC v is e ig fi)), .o is (.cells [spL tk l]), .o ig (.map em)]) (B := [.o i6 (.cells [i64v p.off, i64v (p.off + (total p.fs : Int))]), .o i3 (.cells (amC p))]) (C := .o ib (.cells (buC im)) :: .o im (.map es) :: (E ++ G)) H)⟩⟩⟩
    rw [if_neg (by rw [hc]; simp)] at hk
    rw [hc]
    (refine wX ?_)
    (repeat (((apply zL H; (· repeat first | exact .h | apply AtK.t); (· rfl))); (refine wX ?_)))
    refine acall (cloneB (RB.dv (F := [.o ip (.cells (peC v is e ig fi)), .o is (.cells [spL tk l]), .o ig (.map em), .o i6 (.cells [i64v p.off, i64v (p.off + (total p.fs : Int))]), .o i3 (.cells (amC p)), .o ib (.cells (buC im)), .o im (.map es)]) h H) (by omega)) ?_
    rintro v1 υ ⟨E1, h1, N⟩
    refine ⟨?_, N.ext⟩
    replace H := Hp.mid (A := E1) (B := [.o ip (.cells (peC v is e ig fi)), .o is (.cells [spL tk l]), .o ig (.map em), .o i6 (.cells [i64v p.off, i64v (p.off + (total p.fs : Int))]), .o i3 (.cells (amC p)), .o ib (.cells (buC im)), .o im (.map es)]) (C := E ++ G) (H.join N)
    replace H : Hp σb (.o ip (.cells (peC v is e ig fi)) :: .o is (.cells [spL tk l]) :: .o ig (.map em) :: .o i6 (.cells [i64v p.off, i64v (p.off + (total p.fs : Int))]) :: .o i3 (.cells (amC p)) :: .o ib (.cells (buC im)) :: .o im (.map es) :: (E1 ++ (E ++ G))) υ := H
    clear N
    (refine wX ?_)
    skip
    rw [h1.cells1]
    (refine wX ?_)
    apply zS H
    · exact .h
    · show (v1.isCell && true) = true
      rw [h1.isCell]; rfl
    (conv => whnf)
    clear H
    intro τ H
    (refine wX ?_)
    (repeat (((apply zL H; (· repeat first | exact .h | apply AtK.t); (· rfl))); (refine wX ?_)))
    replace H : Hp σb (.o ip (.cells (peC v1 is e ig fi)) :: .o is (.cells [spL tk l]) :: (E1 ++ ([.o ig (.map em), .o i6 (.cells [i64v p.off, i64v (p.off + (total p.fs : Int))]), .o i3 (.cells (amC p)), .o ib (.cells (buC im)), .o im (.map es)] ++ (E ++ G)))) τ :=
      Hp.mid (B := [.o ip (.cells (peC v1 is e ig fi)), .o is (.cells [spL tk l])]) (Hp.mid (A := [.o ip (.cells (peC v1 is e ig fi)), .o is (.cells [spL tk l]), .o ig (.map em), .o i6 (.cells [i64v p.off, i64v (p.off + (total p.fs : Int))]), .o i3 (.cells (amC p)), .o ib (.cells (buC im)), .o im (.map es)]) (B := E1) (C := E ++ G) H)
    refine acall (peFillA h1 H p.off.toNat p.off (by omega) p.fs.flatten hdn (by show p.off.toNat + p.fs.flatten.length ≤ _; omega) hD (by have := hs.k; omega)) ?_
    clear H h1
    rintro _ τ ⟨rfl, v2, E2, h2, H⟩
    replace H : Hp σb (.o ip (.cells (peC v2 is e ig fi)) :: .o is (.cells [spL tk l]) :: .o ig (.map em) :: .o i6 (.cells [i64v p.off, i64v (p.off + (total p.fs : Int))]) :: .o i3 (.cells (amC p)) :: .o ib (.cells (buC im)) :: .o im (.map es) :: (E2 ++ (E ++ G))) τ := Hp.mid2 (A := [.o ip (.cells (peC v2 is e ig fi)), .o is (.cells [spL tk l])]) (B := E2) (C := [.o ig (.map em), .o i6 (.cells [i64v p.off, i64v (p.off + (total p.fs : Int))]), .o i3 (.cells (amC p)), .o ib (.cells (buC im)), .o im (.map es)]) H
    (refine wX ?_)
    (repeat ((first | (apply zL H; (· repeat first | exact .h | apply AtK.t); (· rfl)) | (apply zA H; (· repeat first | exact .h | apply AtK.t))); (refine wX ?_)))
    refine acall (sAdd (H.perm (.swap _ _ _)) (spanP p) (by have := hs.k; omega)) ?_
    clear H
    rintro _ τ ⟨rfl, u, H⟩
    replace H : Hp σb (.o is (.cells [spL u (addS (spanP p) l)]) :: .o ip (.cells (peC v2 is e ig fi)) :: .o ig (.map em) :: .o i6 (.cells [i64v p.off, i64v (p.off + (total p.fs : Int))]) :: .o i3 (.cells (amC p)) :: .o ib (.cells (buC im)) :: .o im (.map es) :: (E2 ++ (E ++ G))) τ := H
    (refine wX ?_)
    by_cases ha : addC (spanP p) l = 0
    case neg =>
      rw [add_no ha] at H
      (repeat ((refine zY (by omega) ?_); (refine wX ?_)))
      rw [RB.cells1 h]
      (refine wX ?_)
      apply zS H
      · repeat first | exact .h | apply AtK.t
      · show ((v : AVal).isCell && true) = true
        rw [RB.isCell h]; rfl
      (conv => whnf)
      clear H
      intro τ H
      (refine wX ?_)
      have H := Hp.rest (A := E2) (Hp.mid (A := [.o is (.cells [spL u l]), .o ip (.cells (peC v is e ig fi)), .o ig (.map em), .o i6 (.cells [i64v p.off, i64v (p.off + (total p.fs : Int))]), .o i3 (.cells (amC p)), .o ib (.cells (buC im)), .o im (.map es)]) (B := E2) H)
      skip
      exact aret (VLe.refl _) (Sub.refl _) ⟨by rw [hk], .inl ⟨by rw [hk]; exact ha, ⟨u, Hp.rest (A := [.o i6 (.cells [i64v p.off, i64v (p.off + (total p.fs : Int))]), .o i3 (.cells (amC p))]) (Hp.mid (A := [.o ip (.cells (peC v is e ig fi)), .o is (.cells [spL u l]), .o ig (.map em)]) (B := [.o i6 (.cells [i64v p.off, i64v (p.off + (total p.fs : Int))]), .o i3 (.cells (amC p))]) (C := .o ib (.cells (buC im)) :: .o im (.map es) :: (E ++ G)) (H.perm (.swap _ _ _)))⟩⟩⟩
    rw [ha]
    (refine wX ?_)
    (repeat (((apply zA H; (· repeat first | exact .h | apply AtK.t))); (refine wX ?_)))
    replace H : Hp σb (.o ip (.cells (peC v2 is e ig fi)) :: .o ig (.map em) :: .o is (.cells [spL u (addS (spanP p) l)]) :: (.o i6 (.cells [i64v p.off, i64v (p.off + (total p.fs : Int))]) :: .o i3 (.cells (amC p)) :: .o ib (.cells (buC im)) :: .o im (.map es) :: (E2 ++ (E ++ G)))) τ := H.perm (.trans (.swap _ _ _) (.cons _ (.swap _ _ _)))
    refine acall (peNote H h2.isCell p true (by omega) (by omega) (by omega)) ?_
    clear H
    rintro _ τ ⟨rfl, H⟩
    (refine wX ?_)
    (repeat (((apply zL H; (· repeat first | exact .h | apply AtK.t); (· rfl))); (refine wX ?_)))
    apply zMs H
    · (repeat first | exact .h | apply AtK.t)
    · rfl
    (conv => whnf)
    clear H
    intro τ H
    (refine wX ?_)
    rw [mapSet_same he] at H
    skip
    rw [hen]
    exact aret (VLe.refl _) (Sub.refl _) ⟨by rw [hk, ha], .inr ⟨by rw [hk, ha], ⟨v2, E2, u, h2, (Hp.rest (A := E) (Hp.mid (A := .o ip (.cells (peC v2 is (noteE p true e) ig (noteF p true fi))) :: .o ig (.map (noteM p true em)) :: .o is (.cells [spL u (addS (spanP p) l)]) :: .o ib (.cells (buC im)) :: .o im (.map es) :: E2) (B := E) (C := G) (Hp.rest (A := [.o i6 (.cells [i64v p.off, i64v (p.off + (total p.fs : Int))]), .o i3 (.cells (amC p))]) (Hp.mid (A := [.o ip (.cells (peC v2 is (noteE p true e) ig (noteF p true fi))), .o ig (.map (noteM p true em)), .o is (.cells [spL u (addS (spanP p) l)])]) (B := [.o i6 (.cells [i64v p.off, i64v (p.off + (total p.fs : Int))]), .o i3 (.cells (amC p))]) (C := .o ib (.cells (buC im)) :: .o im (.map es) :: (E2 ++ (E ++ G))) H)))).perm (.cons _ (.swap _ _ _))⟩⟩⟩
  · have hen : endsB p = p.last := by unfold endsB; rw [hp]; rfl
    refine abr_false (show (!p.part) = false by rw [hp]; rfl) ?_
    (refine wX ?_)
    (repeat (((apply zL H; (· repeat first | exact .h | apply AtK.t); (· rfl))); (refine wX ?_)))
    refine hlook H (k := 6) rfl ?_
    rw [he, Option.map_some, Option.getD_some]
    (refine wX ?_)
    (repeat (((apply zA H; (· repeat first | exact .h | apply AtK.t))); (refine wX ?_)))
    replace H := Hp.mid (A := [.o i6 (.cells [i64v p.off, i64v (p.off + (total p.fs : Int))]), .o i3 (.cells (amC p))]) (B := [.o ip (.cells (peC v is e ig fi)), .o is (.cells [spL tk l]), .o ig (.map em)]) (C := .o ib (.cells (buC im)) :: .o im (.map es) :: (E ++ G)) H
    replace H : Hp σb (.o ip (.cells (peC v is e ig fi)) :: .o is (.cells [spL tk l]) :: .o ig (.map em) :: .o i6 (.cells [i64v p.off, i64v (p.off + (total p.fs : Int))]) :: .o i3 (.cells (amC p)) :: .o ib (.cells (buC im)) :: .o im (.map es) :: (E ++ G)) τ := H
    refine acall (peFits (H.get (k := 0) rfl) (H.get (k := 1) rfl) (by have := hs.k; omega) (spanP p) p.last) ?_
    rintro _ σ_ ⟨rfl, e_⟩
    obtain rfl := e_.symm
    refine ⟨?_, Ext.refl _⟩
    (refine wX ?_)
    have hk : putK p l e = if fitsC l e (spanP p) p.last ≠ 0 then fitsC l e (spanP p) p.last else addC (spanP p) l := by unfold putK; rw [if_neg (by rw [hr]; simp), hen]
    by_cases hc : fitsC l e (spanP p) p.last = 0
    case neg =>
      rw [if_pos hc] at hk
      (repeat ((refine zY (by omega) ?_); (refine wX ?_)))
      exact aret (VLe.refl _) (Sub.refl _) ⟨by rw [hk], .inl ⟨by rw [hk]; exact hc, ⟨tk, Hp.rest (A := [.o i6 (.cells [i64v p.off, i64v (p.off + (total p.fs : Int))]), .o i3 (.cells (amC p))]) (Hp.mid (A := [.o ip (.cells (peC v is e ig fi)), .o is (.cells [spL tk l]), .o ig (.map em)]) (B := [.o i6 (.cells [i64v p.off, i64v (p.off + (total p.fs : Int))]), .o i3 (.cells (amC p))]) (C := .o ib (.cells (buC im)) :: .o im (.map es) :: (E ++ G)) H)⟩⟩⟩
    rw [if_neg (by rw [hc]; simp)] at hk
    rw [hc]
    (refine wX ?_)
    (repeat (((apply zL H; (· repeat first | exact .h | apply AtK.t); (· rfl))); (refine wX ?_)))
    refine acall (cloneB (RB.dv (F := [.o ip (.cells (peC v is e ig fi)), .o is (.cells [spL tk l]), .o ig (.map em), .o i6 (.cells [i64v p.off, i64v (p.off + (total p.fs : Int))]), .o i3 (.cells (amC p)), .o ib (.cells (buC im)), .o im (.map es)]) h H) (by omega)) ?_
    rintro v1 υ ⟨E1, h1, N⟩
    refine ⟨?_, N.ext⟩
    replace H := Hp.mid (A := E1) (B := [.o ip (.cells (peC v is e ig fi)), .o is (.cells [spL tk l]), .o ig (.map em), .o i6 (.cells [i64v p.off, i64v (p.off + (total p.fs : Int))]), .o i3 (.cells (amC p)), .o ib (.cells (buC im)), .o im (.map es)]) (C := E ++ G) (H.join N)
    replace H : Hp σb (.o ip (.cells (peC v is e ig fi)) :: .o is (.cells [spL tk l]) :: .o ig (.map em) :: .o i6 (.cells [i64v p.off, i64v (p.off + (total p.fs : Int))]) :: .o i3 (.cells (amC p)) :: .o ib (.cells (buC im)) :: .o im (.map es) :: (E1 ++ (E ++ G))) υ := H
    clear N
    (refine wX ?_)
    skip
    rw [h1.cells1]
    (refine wX ?_)
    apply zS H
    · exact .h
    · show (v1.isCell && true) = true
      rw [h1.isCell]; rfl
    (conv => whnf)
    clear H
    intro τ H
    (refine wX ?_)
    (repeat (((apply zL H; (· repeat first | exact .h | apply AtK.t); (· rfl))); (refine wX ?_)))
    replace H : Hp σb (.o ip (.cells (peC v1 is e ig fi)) :: .o is (.cells [spL tk l]) :: (E1 ++ ([.o ig (.map em), .o i6 (.cells [i64v p.off, i64v (p.off + (total p.fs : Int))]), .o i3 (.cells (amC p)), .o ib (.cells (buC im)), .o im (.map es)] ++ (E ++ G)))) τ :=
      Hp.mid (B := [.o ip (.cells (peC v1 is e ig fi)), .o is (.cells [spL tk l])]) (Hp.mid (A := [.o ip (.cells (peC v1 is e ig fi)), .o is (.cells [spL tk l]), .o ig (.map em), .o i6 (.cells [i64v p.off, i64v (p.off + (total p.fs : Int))]), .o i3 (.cells (amC p)), .o ib (.cells (buC im)), .o im (.map es)]) (B := E1) (C := E ++ G) H)
    refine acall (peFillA h1 H p.off.toNat p.off (by omega) p.fs.flatten hdn (by show p.off.toNat + p.fs.flatten.length ≤ _; omega) hD (by have := hs.k; omega)) ?_
    clear H h1
    rintro _ τ ⟨rfl, v2, E2, h2, H⟩
    replace H : Hp σb (.o ip (.cells (peC v2 is e ig fi)) :: .o is (.cells [spL tk l]) :: .o ig (.map em) :: .o i6 (.cells [i64v p.off, i64v (p.off + (total p.fs : Int))]) :: .o i3 (.cells (amC p)) :: .o ib (.cells (buC im)) :: .o im (.map es) :: (E2 ++ (E ++ G))) τ := Hp.mid2 (A := [.o ip (.cells (peC v2 is e ig fi)), .o is (.cells [spL tk l])]) (B := E2) (C := [.o ig (.map em), .o i6 (.cells [i64v p.off, i64v (p.off + (total p.fs : Int))]), .o i3 (.cells (amC p)), .o ib (.cells (buC im)), .o im (.map es)]) H
    (refine wX ?_)
    (repeat ((first | (apply zL H; (· repeat first | exact .h | apply AtK.t); (· rfl)) | (apply zA H; (· repeat first | exact .h | apply AtK.t))); (refine wX ?_)))
    refine acall (sAdd (H.perm (.swap _ _ _)) (spanP p) (by have := hs.k; omega)) ?_
    clear H
    rintro _ τ ⟨rfl, u, H⟩
    replace H : Hp σb (.o is (.cells [spL u (addS (spanP p) l)]) :: .o ip (.cells (peC v2 is e ig fi)) :: .o ig (.map em) :: .o i6 (.cells [i64v p.off, i64v (p.off + (total p.fs : Int))]) :: .o i3 (.cells (amC p)) :: .o ib (.cells (buC im)) :: .o im (.map es) :: (E2 ++ (E ++ G))) τ := H
    (refine wX ?_)
    by_cases ha : addC (spanP p) l = 0
    case neg =>
      rw [add_no ha] at H
      (repeat ((refine zY (by omega) ?_); (refine wX ?_)))
      rw [RB.cells1 h]
      (refine wX ?_)
      apply zS H
      · repeat first | exact .h | apply AtK.t
      · show ((v : AVal).isCell && true) = true
        rw [RB.isCell h]; rfl
      (conv => whnf)
      clear H
      intro τ H
      (refine wX ?_)
      have H := Hp.rest (A := E2) (Hp.mid (A := [.o is (.cells [spL u l]), .o ip (.cells (peC v is e ig fi)), .o ig (.map em), .o i6 (.cells [i64v p.off, i64v (p.off + (total p.fs : Int))]), .o i3 (.cells (amC p)), .o ib (.cells (buC im)), .o im (.map es)]) (B := E2) H)
      skip
      exact aret (VLe.refl _) (Sub.refl _) ⟨by rw [hk], .inl ⟨by rw [hk]; exact ha, ⟨u, Hp.rest (A := [.o i6 (.cells [i64v p.off, i64v (p.off + (total p.fs : Int))]), .o i3 (.cells (amC p))]) (Hp.mid (A := [.o ip (.cells (peC v is e ig fi)), .o is (.cells [spL u l]), .o ig (.map em)]) (B := [.o i6 (.cells [i64v p.off, i64v (p.off + (total p.fs : Int))]), .o i3 (.cells (amC p))]) (C := .o ib (.cells (buC im)) :: .o im (.map es) :: (E ++ G)) (H.perm (.swap _ _ _)))⟩⟩⟩
    rw [ha]
    (refine wX ?_)
    (repeat (((apply zA H; (· repeat first | exact .h | apply AtK.t))); (refine wX ?_)))
    replace H : Hp σb (.o ip (.cells (peC v2 is e ig fi)) :: .o ig (.map em) :: .o is (.cells [spL u (addS (spanP p) l)]) :: (.o i6 (.cells [i64v p.off, i64v (p.off + (total p.fs : Int))]) :: .o i3 (.cells (amC p)) :: .o ib (.cells (buC im)) :: .o im (.map es) :: (E2 ++ (E ++ G)))) τ := H.perm (.trans (.swap _ _ _) (.cons _ (.swap _ _ _)))
    refine acall (peNote H h2.isCell p p.last (by omega) (by omega) (by omega)) ?_
    clear H
    rintro _ τ ⟨rfl, H⟩
    (refine wX ?_)
    (repeat (((apply zL H; (· repeat first | exact .h | apply AtK.t); (· rfl))); (refine wX ?_)))
    apply zMs H
    · (repeat first | exact .h | apply AtK.t)
    · rfl
    (conv => whnf)
    clear H
    intro τ H
    (refine wX ?_)
    rw [mapSet_same he] at H
    skip
    rw [hen]
    exact aret (VLe.refl _) (Sub.refl _) ⟨by rw [hk, ha], .inr ⟨by rw [hk, ha], ⟨v2, E2, u, h2, (Hp.rest (A := E) (Hp.mid (A := .o ip (.cells (peC v2 is (noteE p p.last e) ig (noteF p p.last fi))) :: .o ig (.map (noteM p p.last em)) :: .o is (.cells [spL u (addS (spanP p) l)]) :: .o ib (.cells (buC im)) :: .o im (.map es) :: E2) (B := E) (C := G) (Hp.rest (A := [.o i6 (.cells [i64v p.off, i64v (p.off + (total p.fs : Int))]), .o i3 (.cells (amC p))]) (Hp.mid (A := [.o ip (.cells (peC v2 is (noteE p p.last e) ig (noteF p p.last fi))), .o ig (.map (noteM p p.last em)), .o is (.cells [spL u (addS (spanP p) l)])]) (B := [.o i6 (.cells [i64v p.off, i64v (p.off + (total p.fs : Int))]), .o i3 (.cells (amC p))]) (C := .o ib (.cells (buC im)) :: .o im (.map es) :: (E2 ++ (E ++ G))) H)))).perm (.cons _ (.swap _ _ _))⟩⟩⟩

set_option maxHeartbeats 8000000 in
theorem buPutNew (H : Hp σb (.o ib (.cells (buC im)) :: .o im (.map es) :: G) σ) (p : Pk) (hf : es.find? (fun e => e.1 == p.sn) = none) (hl : p.fs.length ≤ 1000) (ht : total p.fs ≤ 1000000) :
    ACalls Tryz.prog i_rxbuf_Buffer_Put [.ptr ib 0, amV p] σ fun r σ' => r = i64v (putK p [] (-1)) ∧
      ((putK p [] (-1) ≠ 0 ∧ Hp σb (.o ib (.cells (buC im)) :: .o im (.map es) :: G) σ') ∨
       (putK p [] (-1) = 0 ∧ ∃ ip is ig v2 E2 u, RB v2 (fillB [] p.off.toNat p.fs.flatten []) E2 ∧ Hp σb (.o ip (.cells (peC v2 is (noteE p (endsB p) (-1)) ig (noteF p (endsB p) 0))) :: .o is (.cells [spL u (addS (spanP p) [])]) :: .o ig (.map (noteM p (endsB p) [])) :: .o ib (.cells (buC im)) :: .o im (.map (es ++ [(p.sn, .ptr ip 0)])) :: (E2 ++ G)) σ')) := by
  refine k_rxbuf_Buffer_Put rfl ?_
  (refine wX ?_)
  refine hnew H rfl ?_
  clear H
  intro i3 τ H
  (refine wX ?_)
  refine acall (buMade (H.get (k := 1) rfl)) ?_
  rintro _ σ_ ⟨rfl, e_⟩
  obtain rfl := e_.symm
  refine ⟨?_, Ext.refl _⟩
  (refine wX ?_)
  (repeat (((apply zA H; (· repeat first | exact .h | apply AtK.t))); (refine wX ?_)))
  refine acall (buRight p τ hl (by omega)) ?_
  rintro _ σ_ ⟨rfl, e_⟩
  obtain rfl := e_.symm
  refine ⟨?_, Ext.refl _⟩
  (refine wX ?_)
  rcases (show rightB p = false ∨ rightB p = true by cases rightB p <;> simp) with hr | hr
  · have hk : putK p [] (-1) = 1 := by unfold putK; rw [if_pos hr]
    rw [hr]
    (refine wX ?_)
    skip
    exact aret (VLe.refl _) (Sub.refl _) ⟨by rw [hk], .inl ⟨by rw [hk]; decide, H.tail⟩⟩
  rw [hr]
  obtain ⟨g1, g2, g3, g4, g5, g6, g7, g8, g9⟩ := right_ok hr
  have gp := right_pos hr
  have hdn : p.fs.flatten ≠ [] := fun h => by have : total p.fs = 0 := by unfold total; rw [h]; rfl
                                              omega
  have htl : p.fs.flatten.length = total p.fs := rfl
  (refine wX ?_)
  (repeat (((apply zA H; (· repeat first | exact .h | apply AtK.t))); (refine wX ?_)))
  refine acall (aData p τ hl (by omega)) ?_
  rintro _ σ_ ⟨rfl, e_⟩
  obtain rfl := e_.symm
  refine ⟨?_, Ext.refl _⟩
  (refine wX ?_)
  (repeat ((first | refine zI (by omega) ?_ | (apply zL H; (· repeat first | exact .h | apply AtK.t); (· rfl)) | rw [List.length_map]); (refine wX ?_)))
  refine hnew H rfl ?_
  clear H
  intro i6 τ H
  (refine wX ?_)
  (repeat ((first | (apply zL H; (· repeat first | exact .h | apply AtK.t); (· rfl)) | (apply zS H; (· repeat first | exact .h | apply AtK.t); (· rfl); (conv => whnf); clear H; intro τ H)); (refine wX ?_)))
  rcases (show p.part = false ∨ p.part = true by cases p.part <;> simp) with hp | hp
  · have hen : endsB p = true := by unfold endsB; rw [hp]; rfl
    refine abr_true (show (!p.part) = true by rw [hp]; rfl) ?_
    (refine wX ?_)
    (repeat (((apply zL H; (· repeat first | exact .h | apply AtK.t); (· rfl))); (refine wX ?_)))
    refine hlook H (k := 3) rfl ?_
    rw [hf]
    (refine wX ?_)
    skip
    refine acall (sNew [] .full τ (by simp)) ?_
    rintro _ σ2 (⟨h, _⟩ | ⟨_, is, u0, rfl, N⟩)
    · exact (h rfl).elim
    refine ⟨?_, N.ext⟩
    replace H := H.join N
    clear N
    (refine wX ?_)
    skip
    refine hnewmap H ?_
    clear H
    intro ig τ H
    (refine wX ?_)
    skip
    refine hnew H rfl ?_
    clear H
    intro ip τ H
    (refine wX ?_)
    (repeat (((apply zA H; (· repeat first | exact .h | apply AtK.t))); (refine wX ?_)))
    replace H : Hp σb (.o ip (.cells (peC (.slice 1 [] .full) is (-1) ig 0)) :: .o is (.cells [spL u0 []]) :: .o ig (.map []) :: .o i6 (.cells [i64v p.off, i64v (p.off + (total p.fs : Int))]) :: .o i3 (.cells (amC p)) :: .o ib (.cells (buC im)) :: .o im (.map es) :: ([] ++ G)) τ := H.perm (.cons _ (.swap _ _ _))
    refine acall (peFits (H.get (k := 0) rfl) (H.get (k := 1) rfl) (by have := SOk.nil.k; omega) (spanP p) true) ?_
    rintro _ σ_ ⟨rfl, e_⟩
    obtain rfl := e_.symm
    refine ⟨?_, Ext.refl _⟩
    (refine wX ?_)
    have hk : putK p [] (-1) = if fitsC [] (-1) (spanP p) true ≠ 0 then fitsC [] (-1) (spanP p) true else addC (spanP p) [] := by unfold putK; rw [if_neg (by rw [hr]; simp), hen]
    by_cases hc : fitsC [] (-1) (spanP p) true = 0
    case neg =>
      rw [if_pos hc] at hk
      (repeat ((refine zY (by omega) ?_); (refine wX ?_)))
      exact aret (VLe.refl _) (Sub.refl _) ⟨by rw [hk], .inl ⟨by rw [hk]; exact hc, Hp.rest (A := [.o ip (.cells (peC (.slice 1 [] .full) is (-1) ig 0)), .o is (.cells [spL u0 []]), .o ig (.map [])] ++ [.o i6 (.cells [i64v p.off, i64v (p.off + (total p.fs : Int))]), .o i3 (.cells (amC p))]) H⟩⟩
    rw [if_neg (by rw [hc]; simp)] at hk
    rw [hc]
    (refine wX ?_)
    (repeat (((apply zL H; (· repeat first | exact .h | apply AtK.t); (· rfl))); (refine wX ?_)))
    refine acall (cloneB (RB.dv (F := [.o ip (.cells (peC (.slice 1 [] .full) is (-1) ig 0)), .o is (.cells [spL u0 []]), .o ig (.map []), .o i6 (.cells [i64v p.off, i64v (p.off + (total p.fs : Int))]), .o i3 (.cells (amC p)), .o ib (.cells (buC im)), .o im (.map es)]) RB.nil H) (by simp)) ?_
    rintro v1 υ ⟨E1, h1, N⟩
    refine ⟨?_, N.ext⟩
    replace H := Hp.mid (A := E1) (B := [.o ip (.cells (peC (.slice 1 [] .full) is (-1) ig 0)), .o is (.cells [spL u0 []]), .o ig (.map []), .o i6 (.cells [i64v p.off, i64v (p.off + (total p.fs : Int))]), .o i3 (.cells (amC p)), .o ib (.cells (buC im)), .o im (.map es)]) (C := ([] : List HE) ++ G) (H.join N)
    replace H : Hp σb (.o ip (.cells (peC (.slice 1 [] .full) is (-1) ig 0)) :: .o is (.cells [spL u0 []]) :: .o ig (.map []) :: .o i6 (.cells [i64v p.off, i64v (p.off + (total p.fs : Int))]) :: .o i3 (.cells (amC p)) :: .o ib (.cells (buC im)) :: .o im (.map es) :: (E1 ++ (([] : List HE) ++ G))) υ := H
    clear N
    (refine wX ?_)
    skip
    rw [h1.cells1]
    (refine wX ?_)
    apply zS H
    · exact .h
    · show (v1.isCell && true) = true
      rw [h1.isCell]; rfl
    (conv => whnf)
    clear H
    intro τ H
    (refine wX ?_)
    (repeat (((apply zL H; (· repeat first | exact .h | apply AtK.t); (· rfl))); (refine wX ?_)))
    replace H : Hp σb (.o ip (.cells (peC v1 is (-1) ig 0)) :: .o is (.cells [spL u0 []]) :: (E1 ++ ([.o ig (.map []), .o i6 (.cells [i64v p.off, i64v (p.off + (total p.fs : Int))]), .o i3 (.cells (amC p)), .o ib (.cells (buC im)), .o im (.map es)] ++ (([] : List HE) ++ G)))) τ :=
      Hp.mid (B := [.o ip (.cells (peC v1 is (-1) ig 0)), .o is (.cells [spL u0 []])]) (Hp.mid (A := [.o ip (.cells (peC v1 is (-1) ig 0)), .o is (.cells [spL u0 []]), .o ig (.map []), .o i6 (.cells [i64v p.off, i64v (p.off + (total p.fs : Int))]), .o i3 (.cells (amC p)), .o ib (.cells (buC im)), .o im (.map es)]) (B := E1) (C := ([] : List HE) ++ G) H)
    refine acall (peFillA h1 H p.off.toNat p.off (by omega) p.fs.flatten hdn (by show p.off.toNat + p.fs.flatten.length ≤ _; omega) (by simp) (by have := SOk.nil.k; omega)) ?_
    clear H h1
    rintro _ τ ⟨rfl, v2, E2, h2, H⟩
    replace H : Hp σb (.o ip (.cells (peC v2 is (-1) ig 0)) :: .o is (.cells [spL u0 []]) :: .o ig (.map []) :: .o i6 (.cells [i64v p.off, i64v (p.off + (total p.fs : Int))]) :: .o i3 (.cells (amC p)) :: .o ib (.cells (buC im)) :: .o im (.map es) :: (E2 ++ (([] : List HE) ++ G))) τ := Hp.mid2 (A := [.o ip (.cells (peC v2 is (-1) ig 0)), .o is (.cells [spL u0 []])]) (B := E2) (C := [.o ig (.map []), .o i6 (.cells [i64v p.off, i64v (p.off + (total p.fs : Int))]), .o i3 (.cells (amC p)), .o ib (.cells (buC im)), .o im (.map es)]) H
    (refine wX ?_)
    (repeat ((first | (apply zL H; (· repeat first | exact .h | apply AtK.t); (· rfl)) | (apply zA H; (· repeat first | exact .h | apply AtK.t))); (refine wX ?_)))
    refine acall (sAdd (H.perm (.swap _ _ _)) (spanP p) (by have := SOk.nil.k; omega)) ?_
    clear H
    rintro _ τ ⟨rfl, u, H⟩
    replace H : Hp σb (.o is (.cells [spL u (addS (spanP p) [])]) :: .o ip (.cells (peC v2 is (-1) ig 0)) :: .o ig (.map []) :: .o i6 (.cells [i64v p.off, i64v (p.off + (total p.fs : Int))]) :: .o i3 (.cells (amC p)) :: .o ib (.cells (buC im)) :: .o im (.map es) :: (E2 ++ (([] : List HE) ++ G))) τ := H
    (refine wX ?_)
    by_cases ha : addC (spanP p) [] = 0
    case neg =>
      rw [add_no ha] at H
      (repeat ((first | refine zY (by omega) ?_ | (apply zS H; (· repeat first | exact .h | apply AtK.t); (· rfl); (conv => whnf); clear H; intro τ H)); (refine wX ?_)))
      have H := Hp.rest (A := E2) (Hp.mid (A := [.o is (.cells [spL u []]), .o ip (.cells (peC (.slice 1 [] .full) is (-1) ig 0)), .o ig (.map []), .o i6 (.cells [i64v p.off, i64v (p.off + (total p.fs : Int))]), .o i3 (.cells (amC p)), .o ib (.cells (buC im)), .o im (.map es)]) (B := E2) H)
      skip
      exact aret (VLe.refl _) (Sub.refl _) ⟨by rw [hk], .inl ⟨by rw [hk]; exact ha, Hp.rest (A := [.o is (.cells [spL u []]), .o ip (.cells (peC (.slice 1 [] .full) is (-1) ig 0)), .o ig (.map [])] ++ [.o i6 (.cells [i64v p.off, i64v (p.off + (total p.fs : Int))]), .o i3 (.cells (amC p))]) H⟩⟩
    rw [ha]
    (refine wX ?_)
    (repeat (((apply zA H; (· repeat first | exact .h | apply AtK.t))); (refine wX ?_)))
    replace H : Hp σb (.o ip (.cells (peC v2 is (-1) ig 0)) :: .o ig (.map []) :: .o is (.cells [spL u (addS (spanP p) [])]) :: (.o i6 (.cells [i64v p.off, i64v (p.off + (total p.fs : Int))]) :: .o i3 (.cells (amC p)) :: .o ib (.cells (buC im)) :: .o im (.map es) :: (E2 ++ (([] : List HE) ++ G)))) τ := H.perm (.trans (.swap _ _ _) (.cons _ (.swap _ _ _)))
    refine acall (peNote H h2.isCell p true (by omega) (by omega) (by omega)) ?_
    clear H
    rintro _ τ ⟨rfl, H⟩
    (refine wX ?_)
    (repeat (((apply zL H; (· repeat first | exact .h | apply AtK.t); (· rfl))); (refine wX ?_)))
    apply zMs H
    · (repeat first | exact .h | apply AtK.t)
    · rfl
    (conv => whnf)
    clear H
    intro τ H
    (refine wX ?_)
    rw [mapSet_new hf] at H
    skip
    rw [hen]
    exact aret (VLe.refl _) (Sub.refl _) ⟨by rw [hk, ha], .inr ⟨by rw [hk, ha], ⟨ip, is, ig, v2, E2, u, h2, (Hp.rest (A := [.o i6 (.cells [i64v p.off, i64v (p.off + (total p.fs : Int))]), .o i3 (.cells (amC p))]) (Hp.mid (A := [.o ip (.cells (peC v2 is (noteE p true (-1)) ig (noteF p true 0))), .o ig (.map (noteM p true [])), .o is (.cells [spL u (addS (spanP p) [])])]) (B := [.o i6 (.cells [i64v p.off, i64v (p.off + (total p.fs : Int))]), .o i3 (.cells (amC p))]) (C := .o ib (.cells (buC im)) :: .o im (.map (es ++ [(p.sn, AVal.ptr ip 0)])) :: (E2 ++ G)) H)).perm (.cons _ (.swap _ _ _))⟩⟩⟩
  · have hen : endsB p = p.last := by unfold endsB; rw [hp]; rfl
    refine abr_false (show (!p.part) = false by rw [hp]; rfl) ?_
    (refine wX ?_)
    (repeat (((apply zL H; (· repeat first | exact .h | apply AtK.t); (· rfl))); (refine wX ?_)))
    refine hlook H (k := 3) rfl ?_
    rw [hf]
    (refine wX ?_)
    skip
    refine acall (sNew [] .full τ (by simp)) ?_
    rintro _ σ2 (⟨h, _⟩ | ⟨_, is, u0, rfl, N⟩)
    · exact (h rfl).elim
    refine ⟨?_, N.ext⟩
    replace H := H.join N
    clear N
    (refine wX ?_)
    skip
    refine hnewmap H ?_
    clear H
    intro ig τ H
    (refine wX ?_)
    skip
    refine hnew H rfl ?_
    clear H
    intro ip τ H
    (refine wX ?_)
    (repeat (((apply zA H; (· repeat first | exact .h | apply AtK.t))); (refine wX ?_)))
    replace H : Hp σb (.o ip (.cells (peC (.slice 1 [] .full) is (-1) ig 0)) :: .o is (.cells [spL u0 []]) :: .o ig (.map []) :: .o i6 (.cells [i64v p.off, i64v (p.off + (total p.fs : Int))]) :: .o i3 (.cells (amC p)) :: .o ib (.cells (buC im)) :: .o im (.map es) :: ([] ++ G)) τ := H.perm (.cons _ (.swap _ _ _))
    refine acall (peFits (H.get (k := 0) rfl) (H.get (k := 1) rfl) (by have := SOk.nil.k; omega) (spanP p) p.last) ?_
    rintro _ σ_ ⟨rfl, e_⟩
    obtain rfl := e_.symm
    refine ⟨?_, Ext.refl _⟩
    (refine wX ?_)
    have hk : putK p [] (-1) = if fitsC [] (-1) (spanP p) p.last ≠ 0 then fitsC [] (-1) (spanP p) p.last else addC (spanP p) [] := by unfold putK; rw [if_neg (by rw [hr]; simp), hen]
    by_cases hc : fitsC [] (-1) (spanP p) p.last = 0
    case neg =>
      rw [if_pos hc] at hk
      (repeat ((refine zY (by omega) ?_); (refine wX ?_)))
      exact aret (VLe.refl _) (Sub.refl _) ⟨by rw [hk], .inl ⟨by rw [hk]; exact hc, Hp.rest (A := [.o ip (.cells (peC (.slice 1 [] .full) is (-1) ig 0)), .o is (.cells [spL u0 []]), .o ig (.map [])] ++ [.o i6 (.cells [i64v p.off, i64v (p.off + (total p.fs : Int))]), .o i3 (.cells (amC p))]) H⟩⟩
    rw [if_neg (by rw [hc]; simp)] at hk
    rw [hc]
    (refine wX ?_)
    (repeat (((apply zL H; (· repeat first | exact .h | apply AtK.t); (· rfl))); (refine wX ?_)))
    refine acall (cloneB (RB.dv (F := [.o ip (.cells (peC (.slice 1 [] .full) is (-1) ig 0)), .o is (.cells [spL u0 []]), .o ig (.map []), .o i6 (.cells [i64v p.off, i64v (p.off + (total p.fs : Int))]), .o i3 (.cells (amC p)), .o ib (.cells (buC im)), .o im (.map es)]) RB.nil H) (by simp)) ?_
    rintro v1 υ ⟨E1, h1, N⟩
    refine ⟨?_, N.ext⟩
    replace H := Hp.mid (A := E1) (B := [.o ip (.cells (peC (.slice 1 [] .full) is (-1) ig 0)), .o is (.cells [spL u0 []]), .o ig (.map []), .o i6 (.cells [i64v p.off, i64v (p.off + (total p.fs : Int))]), .o i3 (.cells (amC p)), .o ib (.cells (buC im)), .o im (.map es)]) (C := ([] : List HE) ++ G) (H.join N)
    replace H : Hp σb (.o ip (.cells (peC (.slice 1 [] .full) is (-1) ig 0)) :: .o is (.cells [spL u0 []]) :: .o ig (.map []) :: .o i6 (.cells [i64v p.off, i64v (p.off + (total p.fs : Int))]) :: .o i3 (.cells (amC p)) :: .o ib (.cells (buC im)) :: .o im (.map es) :: (E1 ++ (([] : List HE) ++ G))) υ := H
    clear N
    (refine wX ?_)
    skip
    rw [h1.cells1]
    (refine wX ?_)
    apply zS H
    · exact .h
    · show (v1.isCell && true) = true
      rw [h1.isCell]; rfl
    (conv => whnf)
    clear H
    intro τ H
    (refine wX ?_)
    (repeat (((apply zL H; (· repeat first | exact .h | apply AtK.t); (· rfl))); (refine wX ?_)))
    replace H : Hp σb (.o ip (.cells (peC v1 is (-1) ig 0)) :: .o is (.cells [spL u0 []]) :: (E1 ++ ([.o ig (.map []), .o i6 (.cells [i64v p.off, i64v (p.off + (total p.fs : Int))]), .o i3 (.cells (amC p)), .o ib (.cells (buC im)), .o im (.map es)] ++ (([] : List HE) ++ G)))) τ :=
      Hp.mid (B := [.o ip (.cells (peC v1 is (-1) ig 0)), .o is (.cells [spL u0 []])]) (Hp.mid (A := [.o ip (.cells (peC v1 is (-1) ig 0)), .o is (.cells [spL u0 []]), .o ig (.map []), .o i6 (.cells [i64v p.off, i64v (p.off + (total p.fs : Int))]), .o i3 (.cells (amC p)), .o ib (.cells (buC im)), .o im (.map es)]) (B := E1) (C := ([] : List HE) ++ G) H)
    refine acall (peFillA h1 H p.off.toNat p.off (by omega) p.fs.flatten hdn (by show p.off.toNat + p.fs.flatten.length ≤ _; omega) (by simp) (by have := SOk.nil.k; omega)) ?_
    clear H h1
    rintro _ τ ⟨rfl, v2, E2, h2, H⟩
    replace H : Hp σb (.o ip (.cells (peC v2 is (-1) ig 0)) :: .o is (.cells [spL u0 []]) :: .o ig (.map []) :: .o i6 (.cells [i64v p.off, i64v (p.off + (total p.fs : Int))]) :: .o i3 (.cells (amC p)) :: .o ib (.cells (buC im)) :: .o im (.map es) :: (E2 ++ (([] : List HE) ++ G))) τ := Hp.mid2 (A := [.o ip (.cells (peC v2 is (-1) ig 0)), .o is (.cells [spL u0 []])]) (B := E2) (C := [.o ig (.map []), .o i6 (.cells [i64v p.off, i64v (p.off + (total p.fs : Int))]), .o i3 (.cells (amC p)), .o ib (.cells (buC im)), .o im (.map es)]) H
    (refine wX ?_)
    (repeat ((first | (apply zL H; (· repeat first | exact .h | apply AtK.t); (· rfl)) | (apply zA H; (· repeat first | exact .h | apply AtK.t))); (refine wX ?_)))
    refine acall (sAdd (H.perm (.swap _ _ _)) (spanP p) (by have := SOk.nil.k; omega)) ?_
    clear H
    rintro _ τ ⟨rfl, u, H⟩
    replace H : Hp σb (.o is (.cells [spL u (addS (spanP p) [])]) :: .o ip (.cells (peC v2 is (-1) ig 0)) :: .o ig (.map []) :: .o i6 (.cells [i64v p.off, i64v (p.off + (total p.fs : Int))]) :: .o i3 (.cells (amC p)) :: .o ib (.cells (buC im)) :: .o im (.map es) :: (E2 ++ (([] : List HE) ++ G))) τ := H
    (refine wX ?_)
    by_cases ha : addC (spanP p) [] = 0
    case neg =>
      rw [add_no ha] at H
      (repeat ((first | refine zY (by omega) ?_ | (apply zS H; (· repeat first | exact .h | apply AtK.t); (· rfl); (conv => whnf); clear H; intro τ H)); (refine wX ?_)))
      have H := Hp.rest (A := E2) (Hp.mid (A := [.o is (.cells [spL u []]), .o ip (.cells (peC (.slice 1 [] .full) is (-1) ig 0)), .o ig (.map []), .o i6 (.cells [i64v p.off, i64v (p.off + (total p.fs : Int))]), .o i3 (.cells (amC p)), .o ib (.cells (buC im)), .o im (.map es)]) (B := E2) H)
      skip
      exact aret (VLe.refl _) (Sub.refl _) ⟨by rw [hk], .inl ⟨by rw [hk]; exact ha, Hp.rest (A := [.o is (.cells [spL u []]), .o ip (.cells (peC (.slice 1 [] .full) is (-1) ig 0)), .o ig (.map [])] ++ [.o i6 (.cells [i64v p.off, i64v (p.off + (total p.fs : Int))]), .o i3 (.cells (amC p))]) H⟩⟩
    rw [ha]
    (refine wX ?_)
    (repeat (((apply zA H; (· repeat first | exact .h | apply AtK.t))); (refine wX ?_)))
    replace H : Hp σb (.o ip (.cells (peC v2 is (-1) ig 0)) :: .o ig (.map []) :: .o is (.cells [spL u (addS (spanP p) [])]) :: (.o i6 (.cells [i64v p.off, i64v (p.off + (total p.fs : Int))]) :: .o i3 (.cells (amC p)) :: .o ib (.cells (buC im)) :: .o im (.map es) :: (E2 ++ (([] : List HE) ++ G)))) τ := H.perm (.trans (.swap _ _ _) (.cons _ (.swap _ _ _)))
    refine acall (peNote H h2.isCell p p.last (by omega) (by omega) (by omega)) ?_
    clear H
    rintro _ τ ⟨rfl, H⟩
    (refine wX ?_)
    (repeat (((apply zL H; (· repeat first | exact .h | apply AtK.t); (· rfl))); (refine wX ?_)))
    apply zMs H
    · (repeat first | exact .h | apply AtK.t)
    · rfl
    (conv => whnf)
    clear H
    intro τ H
    (refine wX ?_)
    rw [mapSet_new hf] at H
    skip
    rw [hen]
    exact aret (VLe.refl _) (Sub.refl _) ⟨by rw [hk, ha], .inr ⟨by rw [hk, ha], ⟨ip, is, ig, v2, E2, u, h2, (Hp.rest (A := [.o i6 (.cells [i64v p.off, i64v (p.off + (total p.fs : Int))]), .o i3 (.cells (amC p))]) (Hp.mid (A := [.o ip (.cells (peC v2 is (noteE p p.last (-1)) ig (noteF p p.last 0))), .o ig (.map (noteM p p.last [])), .o is (.cells [spL u (addS (spanP p) [])])]) (B := [.o i6 (.cells [i64v p.off, i64v (p.off + (total p.fs : Int))]), .o i3 (.cells (amC p))]) (C := .o ib (.cells (buC im)) :: .o im (.map (es ++ [(p.sn, AVal.ptr ip 0)])) :: (E2 ++ G)) H)).perm (.cons _ (.swap _ _ _))⟩⟩⟩
end
end Go.Proofs.YtgbpjbpdpgbngaaGreat
/-
  Views of rows of bytes that skip on being stored into: cut, and copied.
-/
namespace Go.Proofs.YtgbpjbpdpgbngaaGreat
open Go Go.Am

/-- A view of a row's bytes, of which some may lie ahead or behind. -/
def MsV (σ : AHeap) (r off : Nat) (b : List UInt8) : Prop := ∃ bs : List UInt8, σ r = some (.cells (bs.map byteV)) ∧ off + b.length ≤ bs.length ∧ (bs.drop off).take b.length = b
theorem MsV.sub {σ σ' : AHeap} {r off : Nat} {b : List UInt8} (h : MsV σ r off b) (k : Sub σ' σ) : MsV σ' r off b := by
  obtain ⟨bs, h1, h2, h3⟩ := h; exact ⟨bs, k _ _ h1, h2, h3⟩
theorem MsV.cut {σ : AHeap} {r off : Nat} {b : List UInt8} (h : MsV σ r off b) {l n : Nat} (hn : l ≤ n) (hl : n ≤ b.length) : MsV σ r (off + l) ((b.take n).drop l) := by
  obtain ⟨bs, h1, h2, h3⟩ := h
  have hlen : ((b.take n).drop l).length = n - l := by rw [List.length_drop, List.length_take]; omega
  refine ⟨bs, h1, by omega, ?_⟩
  rw [hlen]
  conv => rhs; rw [← h3]
  rw [List.take_take, Nat.min_eq_left hl, List.drop_take, List.drop_drop]
theorem CloneW (r off : Nat) (b : List UInt8) (σ : AHeap) (hs : MsV σ r off b) (hl : b.length ≤ 140737488355328) : ACalls Tryz.prog i_slices_Clone_byte_byte [.ms r 1 off b.length] σ fun v σ' => ∃ tk, Owned σ σ' tk ∧ v = sl tk b := by
  obtain ⟨bs, h1, h2, h3⟩ := hs
  refine k_slices_Clone_byte_byte rfl ?_
  (refine wX ?_)
  refine ⟨⟨_, h1, by rw [List.length_map]; omega, ?_⟩⟩
  rw [← List.map_drop, ← List.map_take, h3]
  refine aapp_full (by rw [List.length_map]; simp; omega) fun t' ht' => ?_
  (refine wX ?_)
  exact aret_same ⟨_, .tip ht', rfl⟩
/-- Bytes that are given: as they are, or as a view of a row. -/
def Src (σ : AHeap) (v : AVal) (b : List UInt8) : Prop := (∃ t, v = sl t b) ∨ ∃ r off, v = .ms r 1 off b.length ∧ MsV σ r off b
theorem Src.sub {σ σ' : AHeap} {v : AVal} {b : List UInt8} (h : Src σ v b) (k : Sub σ' σ) : Src σ' v b := by
  rcases h with h | ⟨r, off, h, m⟩
  · exact .inl h
  · exact .inr ⟨r, off, h, m.sub k⟩
theorem acutm {σ : AHeap} {r off l n : Nat} {b : List UInt8} {K : AVal → Prop} (hs : MsV σ r off b) (hl : l ≤ n) (hn : n ≤ b.length) (h : ∀ v, Src σ v ((b.take n).drop l) → K v) : ACutM r 1 off l n K := by
  have hlen : ((b.take n).drop l).length = n - l := by rw [List.length_drop, List.length_take]; omega
  refine ⟨?_⟩
  by_cases e : l < n
  · refine .inl ⟨e, h _ (.inr ⟨r, off + l, by rw [hlen, Nat.mul_one], hs.cut hl hn⟩)⟩
  · refine .inr (.inr ⟨by omega, h _ (.inl ⟨.none, ?_⟩)⟩)
    rw [List.length_eq_zero_iff.1 (by omega : ((b.take n).drop l).length = 0)]; rfl
theorem CloneS (v : AVal) (b : List UInt8) (σ : AHeap) (hs : Src σ v b) (hl : b.length ≤ 140737488355328) : ACalls Tryz.prog i_slices_Clone_byte_byte [v] σ fun v σ' => ∃ tk, Owned σ σ' tk ∧ v = sl tk b := by
  rcases hs with ⟨t, rfl⟩ | ⟨r, off, rfl, m⟩
  · exact Clone b _ _ hl
  · exact CloneW r off b σ m hl
end Go.Proofs.YtgbpjbpdpgbngaaGreat
