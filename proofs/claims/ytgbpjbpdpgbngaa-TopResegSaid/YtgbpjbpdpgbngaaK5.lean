/-
  Texts of this claim, pack 5: Cbase, Cnuma, Cnumb, Cjoin, Clensz, Cnumc, Cspa, Cspb, Ctok, Chp, Cvia, Cspan, Cspao, Cspn, Cnumd, Clists, Cpack, Cbits, Cbitsp, Cbitsb, Cbitsc, Cbitsd, Cown, Clens, Cseq, Cumd, Camd, Camda.
-/
import Derived.Test.YtgbpjbpdpgbngaaK2
import Derived.Test.YtgbpjbpdpgbngaaK3
import Derived.Maps.RangeWalk
import Derived.Maps.AppendAt
import Derived.OwnWalk
import Derived.WalkKit
import Derived.WalkSpells
import Derived.Sort.OwnSortedInts
import Derived.Shelf.Lay
import Derived.Shelf.Sort.Plain
import Derived.Shelf.Slices.In.SortNone
import Derived.Ground.NamesProg
import Derived.Ground.SlbNamesProg
import Derived.Shelf.Bytes.SlJoin
set_option linter.unusedSimpArgs false
set_option linter.unusedVariables false
/-
  Words and contracts that all packages share.
-/
namespace Go.Proofs.Ytgbpjbpdpgbngaa
open Go Go.Am

abbrev i64v (n : Int) : AVal := .v (.int .i64 n)

abbrev boolv (b : Bool) : AVal := .v (.bool b)

abbrev sl (t : Tok) (bs : List UInt8) : AVal := .slice 1 (bs.map byteV) t

abbrev u64v (n : Nat) : AVal := .v (.int .u64 n)
abbrev u8v (n : Nat) : AVal := .v (.int .u8 n)

theorem get_bytes {bs : List UInt8} {i : Nat} (h : i < bs.length) : (bs.map byteV)[((i : Nat) : Int).toNat]? = some (byteV bs[i]) := by
  rw [Int.toNat_natCast, List.getElem?_map, List.getElem?_eq_getElem h]; rfl

theorem Clone (bs : List UInt8) (t : Tok) (σ : AHeap) (hl : bs.length ≤ 140737488355328) : ACalls Try.prog i_slices_Clone_byte_byte [sl t bs] σ fun v σ' => ∃ tk, Owned σ σ' tk ∧ v = sl tk bs := by
  refine k_slices_Clone_byte_byte rfl ?_
  (conv => whnf)
  refine anil ?_ ?_
  · (conv => whnf)
    refine abr_false rfl ?_
    (conv => whnf)
    refine aapp_full (by simp; omega) fun t' ht' => ?_
    (conv => whnf)
    exact aret_same ⟨_, .tip ht', rfl⟩
  · intro h0
    (conv => whnf)
    refine abr_true rfl ?_
    (conv => whnf)
    have : bs = [] := by simpa using h0
    subst this
    exact aret_same ⟨_, .full σ, rfl⟩

theorem VLe.tup_sl {s : Nat} {xs : List AVal} {t : Tok} {ys : List AVal} : VLe (.tup (.slice s xs t :: ys)) (.tup (.slice s xs .none :: ys)) := VLe.tup (VLe.cons (VLe.slice _ _ _) fun _ _ h => h)

theorem bytes_ok (l : List UInt8) : (l.map byteV).all (okElem 1) = true := by
  rw [List.all_eq_true]; intro x hx; obtain ⟨b, _, rfl⟩ := List.mem_map.1 hx; rfl

theorem bytes_flat (l : List UInt8) : (l.map byteV).flatMap AVal.cells = l.map byteV := by
  induction l with
  | nil => rfl
  | cons x l ih => rw [List.map_cons, List.flatMap_cons, ih]; rfl

theorem bytes_one (l : List UInt8) : ∀ x ∈ l.map byteV, x.cells.length = 1 := by
  intro x hx; obtain ⟨b, _, rfl⟩ := List.mem_map.1 hx; rfl

theorem CloneM (bs : List UInt8) (t : Tok) (σ : AHeap) (hl : bs.length ≤ 140737488355328) : ACalls Try.prog i_slices_Clone_byte_byte [sl t bs] σ fun v σ' => (bs = [] ∧ v = sl .full [] ∧ σ' = σ) ∨ (bs ≠ [] ∧ ∃ r, σ r = none ∧ v = .ms r 1 0 bs.length ∧ σ' = upd σ r (.cells (bs.map byteV))) := by
  refine km_slices_Clone_byte_byte rfl ?_
  (conv => whnf)
  refine anil ?_ ?_
  · (conv => whnf)
    refine abr_false rfl ?_
    (conv => whnf)
    by_cases h0 : bs = []
    · subst h0
      refine aappnew_none (by simp) ?_
      (conv => whnf)
      exact aret_same (.inl ⟨rfl, rfl, rfl⟩)
    · refine aappnew (by simpa using h0) (by simp; omega) (bytes_ok bs) fun r hr => ?_
      rw [bytes_flat, List.length_map]
      (conv => whnf)
      exact aret_same (.inr ⟨h0, r, hr, rfl, rfl⟩)
  · intro h0
    (conv => whnf)
    refine abr_true rfl ?_
    (conv => whnf)
    have : bs = [] := by simpa using h0
    subst this
    exact aret_same (.inl ⟨rfl, rfl, rfl⟩)

theorem splice_set {F : List UInt8} {p : Nat} {x : UInt8} (h : p < F.length) : splice (F.map byteV) p [byteV x] = (F.set p x).map byteV := by
  unfold splice
  rw [List.set_eq_take_append_cons_drop, if_pos h]
  simp [List.map_take, List.map_drop]

end Go.Proofs.Ytgbpjbpdpgbngaa
/-
  The numbers of what is kept: what a walk over a map says, plain.
-/
namespace Go.Proofs.Ytgbpjbpdpgbngaa
open Go Go.Am Go.Maps Go.WideElems Go.MapKept
open Go.ChangeShapes Go.WideShapes
open Go.RowKit (Below)

/-- The numbers, in order. -/
def sortI (l : List Int) : List Int := l.mergeSort fun x y => decide (x ≤ y)
abbrev anyR : Value → Option (DataW Unit × List MemPlace) := fun _ => some (.nil, [])
/-- What is still to come, and what came. -/
structure KeysLeft (keys ks : List Int) (left : Lit → Bool) : Prop where
  nd : ks.Nodup
  sub : ∀ x ∈ ks, x ∈ keys
  lf : ∀ x ∈ keys, left (.int .i64 x) = !decide (x ∈ ks)
  only : ∀ kl, left kl = true → ∃ x ∈ keys, kl = .int .i64 x
theorem sameInt (x y : Int) : (Lit.int .i64 x).sameKey (.int .i64 y) = decide (x = y) := by
  simp [Lit.sameKey]
theorem KeysLeft.step {keys ks : List Int} {left : Lit → Bool} (h : KeysLeft keys ks left) {x : Int} (hx : left (.int .i64 x) = true) : KeysLeft keys (ks ++ [x]) (fun z => left z && !z.sameKey (.int .i64 x)) := by
  obtain ⟨y, hy, e⟩ := h.only _ hx
  have e : x = y := by injection e
  subst e
  have hn : x ∉ ks := fun hm => by rw [h.lf x hy, decide_eq_true hm] at hx; cases hx
  refine ⟨List.nodup_append.2 ⟨h.nd, by simp, fun a ha b hb e => hn (by rw [List.mem_singleton] at hb; rw [← hb, ← e]; exact ha)⟩, fun y hy' => ?_, fun y hy' => ?_, fun kl hk => ?_⟩
  · rcases List.mem_append.1 hy' with h1 | h1
    · exact h.sub y h1
    · rw [List.mem_singleton.1 h1]; exact hy
  · rw [h.lf y hy', sameInt]
    by_cases h1 : y ∈ ks
    · simp [h1]
    · by_cases h2 : y = x
      · simp [h2]
      · simp [h1, h2]
  · rw [Bool.and_eq_true] at hk
    exact h.only kl hk.1
theorem KeysLeft.len {keys ks : List Int} {left : Lit → Bool} (h : KeysLeft keys ks left) : ks.length ≤ keys.length := h.nd.length_le_of_subset h.sub
theorem KeysLeft.perm {keys ks : List Int} {left : Lit → Bool} (h : KeysLeft keys ks left) (hk : keys.Nodup) (h0 : ∀ kl, left kl = false) : ks.Perm keys := by
  refine (List.perm_ext_iff_of_nodup h.nd hk).2 fun x => ⟨h.sub x, fun hx => ?_⟩
  have := h.lf x hx
  rw [h0] at this
  simpa using this
theorem sortI_perm (l : List Int) : (sortI l).Perm l := List.mergeSort_perm _ _
theorem sortI_sorted (l : List Int) : (sortI l).Pairwise (fun x y => x ≤ y) := by
  have := List.pairwise_mergeSort (le := fun x y : Int => decide (x ≤ y)) (fun a b c h1 h2 => by simp at *; omega) (fun a b => by simp; omega) l
  exact this.imp fun h => by simpa using h
theorem sortI_eq {a b : List Int} (h : a.Perm b) : sortI a = sortI b := by
  refine List.Perm.eq_of_pairwise (le := fun x y : Int => x ≤ y) (fun x y _ _ h1 h2 => by omega) (sortI_sorted a) (sortI_sorted b) ?_
  exact (sortI_perm a).trans (h.trans (sortI_perm b).symm)
/-- A map of the framework's, as the kit's. -/
theorem owns_of {P : Program} {k : TypeId} (hk3 : P.underlying k = some (.int .i64)) {w : World} {bm clk n : Nat} {c : Array MapEntry} {keys : List Int} (hb : w.heap[bm]? = some (.map c clk)) (hk : c.toList.map (·.key) = keys.map (Value.int .i64)) (hs : Stamped c clk)
    (hn : keys.length ≤ n) (hm : n ≤ maxLen) (hw : ∀ x ∈ keys, (Lit.int .i64 x).wf = true) :
    ∃ D, w.ownsMap P k anyR bm n D ∧ KeysLeft keys [] (has D) ∧ Maps.size D = keys.length ∧ keys.Nodup := by
  have hcs : c.size = keys.length := by simpa using congrArg List.length hk
  have hkey : ∀ x ∈ c.toList, ∃ a ∈ keys, x.key = .int .i64 a := fun x hx => by
    have : x.key ∈ keys.map (Value.int .i64) := hk ▸ List.mem_map_of_mem hx
    obtain ⟨a, ha, e⟩ := List.mem_map.1 this
    exact ⟨a, ha, e.symm⟩
  have hrd : ∀ x ∈ c.toList, ∀ a ∈ keys, x.key = .int .i64 a → rd P k anyR x = some (.int .i64 a, .nil) := fun x hx a ha e => by
    unfold rd
    rw [e, keyOf_int_mk hk3 (hw a ha)]; rfl
  have F : Fit P k anyR c clk := ⟨by omega, hs, fun x hx => by obtain ⟨a, ha, e⟩ := hkey x hx; exact ⟨_, hrd x hx a ha e⟩⟩
  have hnd : keys.Nodup := by
    have h1 := hs.2.2
    rw [hk] at h1
    have h2 := List.pairwise_map.1 h1
    exact h2.imp fun h e => h (by rw [e])
  refine ⟨_, ⟨c, clk, hb, F, by omega, rfl⟩, ⟨List.nodup_nil, nofun, fun a ha => ?_, fun kl hkl => ?_⟩, ?_, hnd⟩
  · have : Value.int .i64 a ∈ c.toList.map (·.key) := by rw [hk]; exact List.mem_map_of_mem ha
    obtain ⟨x, hx, e⟩ := List.mem_map.1 this
    have hr := rg_of (hrd x hx a ha e)
    simp only [has, List.not_mem_nil, decide_false, Bool.not_false]
    refine List.any_eq_true.2 ⟨rg P k anyR x, mem_sorted.2 (List.mem_map.2 ⟨x, hx, rfl⟩), ?_⟩
    rw [hr, sameInt]; simp
  · simp only [has] at hkl
    obtain ⟨p, hp, hpk⟩ := List.any_eq_true.1 hkl
    obtain ⟨x, hx, rfl⟩ := List.mem_map.1 (mem_sorted.1 hp)
    obtain ⟨a, ha, e⟩ := hkey x hx
    rw [rg_of (hrd x hx a ha e)] at hpk
    exact ⟨a, ha, (WideAt.sameKey_eq hpk).symm⟩
  · simp only [Maps.size, length_sorted, List.length_map]
    simpa using hcs
end Go.Proofs.Ytgbpjbpdpgbngaa
/-
  The numbers of what is kept: the walks of the two functions that tell them.
-/
namespace Go.Proofs.Ytgbpjbpdpgbngaa
open Go Go.Am Go.Maps Go.WideElems Go.MapKept Go.Shelf
open Go.ChangeShapes Go.WideShapes
open Go.RowKit (Below Hid)
open Go.Sort

shelf_lay Lays.n189 Nm 189 at Try as Try.lays189
theorem nu_sort (blk off cap : Nat) (zs : List Int) (w : World) (hH : Go.Sort.Holds (Value.int .i64) w blk off zs.toArray) (hblk : blk < w.heap.size) (hsz : zs.length < 4611686018427387904) :
    Calls Try.prog 68 #[.slice (some ⟨blk, off, none⟩) zs.length cap] w fun e w' =>
      e = .returned (.tuple #[]) ∧ ∃ n os, w' = grow (putRow (Value.int .i64) (Sort.ahead w n) blk off (zs.mergeSort fun x y => decide (x ≤ y)).toArray) os := Any.slices_Sort_int Try.lays189 blk off cap zs w hH hblk hsz
theorem nu_sort_none (p : Option Addr) (cap : Nat) (w : World) :
    Calls Try.prog 68 #[.slice p 0 cap] w fun e w' => e = .returned (.tuple #[]) ∧ w' = w := Any.slices_Sort_int_none Try.lays189 p cap w
theorem nu3 : Try.prog.underlying 3 = some (.int .i64) := by kernel_rfl
theorem nu51 : Try.prog.underlying 52 = some (.slice 3) := by kernel_rfl
theorem nu59 : Try.prog.underlying 59 = some (.map 3 72) := by kernel_rfl
theorem nu_law3 : Keyed Try.prog 3 := int_keyed nu3
theorem nu_info3 : (Try.prog.info? 3).map (fun i => (i.zero, i.size, i.bytes)) = some (some (.int .i64 0), 1, 8) := by kernel_rfl
set_option maxRecDepth 1000000
set_option maxHeartbeats 3200000

theorem bu_walk (b bm : Nat) (w : World) (c : Array MapEntry) (clk : Nat) (keys : List Int) (c0 : w.cell? ⟨b, 0, none⟩ = some (.map (some bm))) (hb : w.heap[bm]? = some (.map c clk)) (hk : c.toList.map (·.key) = keys.map (Value.int .i64)) (hs : Stamped c clk)
    (hn : keys.length ≤ 1000000) (hw : ∀ x ∈ keys, (Lit.int .i64 x).wf = true) :
    Calls Try.prog 46 #[.pointer (some ⟨b, 0, none⟩)] w fun e w' => ∃ v, e = .returned v ∧ w'.ownsRow w.heap.size 3 1 v keys.length ((sortI keys).map (Value.int .i64)) ∧ Below w.heap.size w w' := by
  obtain ⟨D, hown, hK, hsz, hnd⟩ := owns_of nu3 (n := 1000000) hb hk hs hn (by decide) hw
  obtain ⟨i0, hi, hz0, hz1, hz2⟩ := info_parts nu_info3
  have hbl : bm < w.heap.size := hown.lt
  have HK : Hid (KeysLeft keys [] (has D)) := hK
  have HN : Hid keys.Nodup := hnd
  have qT : ∀ (w : World) (r : Option Nat), (binOp .neq 59 (.map r) (.map none)).run Try.prog w = .ok (.bool (!r.isNone)) w := fun w r => Go.run_neq_map_nil w _ _ _ r nu59
  clear hK hnd hb hk hs
  go_enter Try.func46, Try.ntmps46
  go_wp2_with (first
    | (at_range; refine wpList_range_own _ rfl _ 59 rfl 3 72 nu_law3 nu59 _ bm 1000000 _ rfl hown ?_; intro w0 hrg0 hg0 hs0)
    | go_in)
  go_frame
  go_loopw [3] (fun v wr => ∃ (left : Lit → Bool) (cnt : Nat) (ks : List Int), wr.ranges Try.prog 3 anyR bm w.heap.size 1000000 D left cnt ∧
      wr.ownsRow w.heap.size 3 1 v ks.length (ks.map (Value.int .i64)) ∧ ks.length + cnt ≤ 1000000 ∧ Hid (KeysLeft keys ks left) ∧ Hid (ks = [] → v = .slice none 0 0) ∧ Hid (Below w.heap.size w wr))
    (fun _ wr => wr.rangeLeft bm w.heap.size)
  case atStart => exact ⟨_, _, [], hrg0, World.ownsRow_nil _ _ _ _, by rw [hsz]; simpa using hn, HK, (fun _ => rfl), (Below.refl _ _).grown hg0 (Nat.le_refl _) (fun j hj => by cases hj)⟩
  case round =>
    obtain ⟨left, cnt, ks, hrg, hrow, hlen, HC, HE, HB⟩ := hrel
    have hsb := HB.out.size
    go_wp2_with (first
      | (at_next; refine wpList_next_ranges _ rfl _ rfl 3 nu_law3 anyR (Value.int .i64) id (fun key kl hk => by obtain ⟨x, hx, _⟩ := keyOf_int_inv nu3 hk; exact ⟨x, hx⟩) (fun v y hv => ⟨v, rfl⟩) bm w.heap.size 1000000 _ _ _ rfl hrg ?_ ?_)
      | go_in)
    · intro hc0 hl0
      have HP : Hid (ks.Perm keys) := HC.out.perm HN.out hl0
      rcases hrow.2 with ⟨hnil, hk0⟩ | ⟨g, cap, cur, hv, hbase, hbk, h1, h2, h3, h4⟩
      · subst hnil
        obtain rfl : ks = [] := List.eq_nil_of_length_eq_zero hk0
        have hke : keys = [] := List.eq_nil_of_length_eq_zero HP.out.length_eq.symm
        subst hke
        clear hrg
        go_wp2_with (go_at_call 68; refine (nu_sort_none none 0 _).mono ?_; rintro e w' ⟨rfl, rfl⟩)
        go_ret
        exact ⟨_, rfl, (by rw [show sortI [] = [] by simp [sortI]]; exact hrow), HB.out⟩
      · subst hv
        have hH : Go.Sort.Holds (Value.int .i64) wr g 0 ks.toArray := holds_of_blockI hbk (by simpa using h4)
        have hgl : g < wr.heap.size := (Array.getElem?_eq_some_iff.1 hbk).1
        have hsrt := nu_sort g 0 cap ks wr hH hgl (by omega)
        clear hrg hH
        go_wp2_with (go_at_call 68; refine hsrt.mono ?_; rintro e w' ⟨rfl, nn, os, rfl⟩)
        go_ret
        have hl2 : (sortI ks).length = ks.length := List.length_mergeSort ks
        have hg := grownBy_sortedI (w := wr) (g := g) (n := nn) (os := os) (sortI ks).toArray
        have hro := ownsRow_sortedI (n := nn) (os := os) (ts := sortI ks) hl2 hbase hbk h1 h2 h3
        rw [← sortI_eq HP.out, ← HP.out.length_eq]
        exact ⟨_, rfl, hro, HB.out.grown hg hsb (fun j hj => by cases hj; exact hbase)⟩
    · intro x cv kl yd yp w2 cnt2 hkey hlk hv hv2 hat hrg2 hlt hg2 hs2 hen
      obtain ⟨x', ex, rfl, hwx⟩ := keyOf_int_inv nu3 hkey
      injection ex with _ ex
      subst ex
      have hrow2 := hrow.kept hg2 (Or.inr (row_ne_iter hrow hrg).symm)
      have hbl2 : w.heap.size ≤ w2.heap.size := by omega
      have hm0 : wr.rangeLeft bm w.heap.size = cnt := hrg.left_eq
      have HB2 : Hid (Below w.heap.size w w2) := HB.out.grown hg2 hsb (fun j hj => by cases hj; exact Nat.le_refl _)
      clear hs2 hsb hrg hrow HB hv hv2 hat
      go_wp2_with (first
        | (at_builtin; refine wpList_append_own_at _ rfl _ _ 52 rfl w.heap.size 3 i0 (.int .i64 0) 1 8 nu51 hi hz0 hz1 hz2 rfl (by decide) _ _ _ rfl (hrow2.alloc _) ⟨w2.heap.size, 0, none⟩ 1 1 [.int .i64 x] rfl rfl (cell_one_new _ _ _) (by simp [Value.oneCell']) (by unfold maxLen; omega) (by omega) (by simp; omega) ?_; intro v' w3 hown' hg3 hnil3 hloc; go_frame)
        | go_in)
      have hrowA := hrow2.alloc (.cells #[.int .i64 x] 3)
      have hrgA := hrg2.alloc (.cells #[.int .i64 x] 3)
      replace hg3 : (w2.alloc (.cells #[.int .i64 x] 3)).grownBy w3 u3.ownBlock := hg3
      have hrg3 := hrgA.kept hg3 (row_ne_low hrowA hbl) (row_ne_iter hrowA hrgA)
      have HB3 : Hid (Below w.heap.size w w3) := (HB2.out.alloc hbl2 _).grown hg3 (by simp; omega) (fun j hj => (hrowA.lt j hj).1)
      clear hnil3 hloc hrowA hrgA hg3 hrg2 hrow2 HB2
      go_wp2
      go_roundw
      case rel => exact ⟨_, cnt2, hrg3, ks ++ [x], by simpa using hown', by simp; omega, HC.out.step hlk, (fun h => by simp at h), HB3⟩
      case measure => rw [hrg3.left_eq]; exact hlt
end Go.Proofs.Ytgbpjbpdpgbngaa
/-
  bytes.Join, out of the library's own contract.
-/
namespace Go.Proofs.Ytgbpjbpdpgbngaa
open Go Go.Am Go.Shelf Go.Lib
open Go.RowKit (Below)

theorem Inv_fresh {κ : Ghost} {σ : AHeap} {w w' : World} (h : Inv κ σ w) (hb : Below w.heap.size w w') {g : Nat} (hg : w.heap.size ≤ g) {vs : List Value} (ho : Ones vs) (hc : ∀ i v, vs[i]? = some v → w'.cell? ⟨g, i, none⟩ = some v) :
    ∃ κ', κ.le κ' ∧ Inv κ' σ w' ∧ ∀ i v, vs[i]? = some v → κ'.cell g i = some v := by
  have old : ∀ b o v, κ.cell b o = some v → b < w.heap.size := by
    intro b o v e
    have := (h.cell b o v e).1
    unfold World.cell? at this
    refine Classical.byContradiction fun hn => ?_
    rw [show w.heap[b]? = none from Array.getElem?_eq_none (by omega)] at this
    cases this
  have hle : κ.le { κ with cell := fun b o => if b = g then vs[o]? else κ.cell b o } := by
    refine ⟨rfl, rfl, fun b o v e => ?_, fun _ _ e => e, fun _ _ e => e, fun _ _ e => e⟩
    have := old b o v e
    dsimp only
    rw [if_neg (by omega)]; exact e
  refine ⟨_, hle, ?_, fun i v e => ?_⟩
  · refine ⟨h.below.trans (hb.mono h.base), Nat.le_trans h.base hb.size, ?_, ?_, ?_, h.inj, ?_, ?_, ?_, h.fin⟩
    · intro b o v e
      dsimp only at e
      by_cases hbg : b = g
      · rw [if_pos hbg] at e
        subst hbg
        exact ⟨hc o v e, ho v (List.mem_of_getElem? e)⟩
      · rw [if_neg hbg] at e
        obtain ⟨h1, h2⟩ := h.cell b o v e
        exact ⟨by rw [hb.cell (p := ⟨b, o, none⟩) (old b o v e)]; exact h1, h2⟩
    · intro b n e
      obtain ⟨c, ety, f, h1, h2⟩ := h.size b n e
      have hlt : b < w.heap.size := (Array.getElem?_eq_some_iff.1 h1).1
      exact ⟨c, ety, f, by rw [hb.block b hlt]; exact h1, h2⟩
    · intro i b e
      obtain ⟨h1, h2, h3⟩ := h.obj i b e
      refine ⟨h1, Nat.lt_of_lt_of_le h2 hb.size, fun hl o => ?_⟩
      dsimp only
      rw [if_neg (by omega)]; exact h3 hl o
    · intro i cs e
      obtain ⟨b, c, ety, vs', us, h1, h2, h3, h4, h5, h6, h7⟩ := h.cells i cs e
      have hlt := (h.obj i b h1).2.1
      refine ⟨b, c, ety, vs', us, h1, by rw [hb.block b hlt]; exact h2, h3, h4, RepL.mono hle h5, h6, h7⟩
    · intro i es e
      obtain ⟨b, c, clk, h1, h2, h3, h4⟩ := h.map i es e
      have hlt := (h.obj i b h1).2.1
      refine ⟨b, c, clk, h1, by rw [hb.block b hlt]; exact h2, h3, RepL.mono hle h4⟩
    · intro t b p e k
      obtain ⟨h1, ⟨c, ety, h2, h3⟩, h4, h5, h6⟩ := h.tip t b p e k
      have hlt : b < w.heap.size := (Array.getElem?_eq_some_iff.1 h2).1
      refine ⟨h1, ⟨c, ety, by rw [hb.block b hlt]; exact h2, h3⟩, fun o ho => ?_, h5, h6⟩
      dsimp only
      rw [if_neg (by omega)]; exact h4 o ho
  · dsimp only; rw [if_pos rfl]; exact e

theorem bytes_reps (κ : Ghost) : ∀ (l : List UInt8), RepL κ ((l.map byteV).flatMap AVal.cells) (l.map fun x => Value.int .u8 (x.toNat : Int))
  | [] => .nil
  | x :: l => .cons (.v rfl) (bytes_reps κ l)
theorem bytes_vals {κ : Ghost} : ∀ {l : List UInt8} {vs : List Value}, RepL κ ((l.map byteV).flatMap AVal.cells) vs → vs = l.map fun x => Value.int .u8 (x.toNat : Int)
  | [], _, h => by cases h; rfl
  | x :: l, _, h => by
    have h : RepL κ (byteV x :: (l.map byteV).flatMap AVal.cells) _ := h
    cases h with
    | cons h1 h2 =>
      obtain ⟨rfl, _⟩ := h1.v_inv
      rw [bytes_vals h2]; rfl

/-- A fresh slice of bytes, as the framework's. -/
theorem of_fresh {κ : Ghost} {σ : AHeap} {w w' : World} (h : Inv κ σ w) (hb : Below w.heap.size w w') {v : Value} {l : List UInt8} (hf : FreshBytes w.heap.size w' v l) : ∃ κ', κ.le κ' ∧ Inv κ' σ w' ∧ RepV κ' (sl .none l) v := by
  obtain ⟨g, cap, zs, rfl, hg, hcap, _, hz, hr, hbs, hcell, _⟩ := hf
  have hl : (zs.take l.length).length = l.length := by rw [List.length_take]; omega
  obtain ⟨κ', k1, k2, k3⟩ := Inv_fresh h hb hg (vs := l.map fun x => Value.int .u8 (x.toNat : Int)) (by intro v hv; obtain ⟨x, _, rfl⟩ := List.mem_map.1 hv; rfl) (by
    intro i v hv
    rw [List.getElem?_map] at hv
    obtain ⟨x, hx, rfl⟩ := Option.map_eq_some_iff.1 hv
    have hi : i < l.length := (List.getElem?_eq_some_iff.1 hx).1
    rw [hcell i (by omega)]
    rw [← hbs] at hx
    unfold bytesOf at hx
    rw [List.getElem?_map, List.getElem?_take_of_lt hi] at hx
    obtain ⟨z, hz2, rfl⟩ := Option.map_eq_some_iff.1 hx
    have hzr := hr z (List.mem_of_getElem? hz2)
    rw [List.getD_eq_getElem?_getD, hz2, Option.getD_some, UInt8.toNat_ofNat']
    congr 2; omega)
  refine ⟨κ', k1, k2, .slice (vs := l.map fun x => Value.int .u8 (x.toNat : Int)) (by rw [List.length_map]) hcap (bytes_one l) (bytes_reps κ' l) (fun i v hv => ?_) trivial⟩
  rw [Nat.zero_add]; exact k3 i v hv

theorem holds_of {κ : Ghost} {σ : AHeap} {w : World} (h : Inv κ σ w) {l : List UInt8} {t : Tok} {v : Value} (hr : RepV κ (sl t l) v) : HoldsBytes w v l := by
  rcases hr.slice_inv with ⟨⟨a, rfl⟩, hn⟩ | ⟨b, off, cap, vs, rfl, g2, g3, g4, g5, g6⟩
  · have hn : l = [] := by simpa using hn
    subst hn
    exact ⟨a, 0, rfl, fun _ => rfl, fun a h i x hx => by simp at hx⟩
  · rw [List.length_map] at g2 ⊢
    refine ⟨some ⟨b, off, none⟩, cap, rfl, nofun, fun a ha i x hx => ?_⟩
    cases ha
    rw [addr_eq]
    have := bytes_vals g4
    subst this
    exact (h.cell b (off + i) _ (g5 i _ (by rw [List.getElem?_map, hx]; rfl))).1

theorem parts_reps {κ : Ghost} {σ : AHeap} {w : World} (h : Inv κ σ w) : ∀ {l : List (List UInt8)} {vs : List Value}, RepL κ ((l.map (sl .none)).flatMap AVal.cells) vs → vs.length = l.length ∧ ∀ (i : Nat) v x, vs[i]? = some v → l[i]? = some x → HoldsBytes w v x
  | [], _, hr => by cases hr; exact ⟨rfl, fun i v x h => by simp at h⟩
  | a :: l, _, hr => by
    have hr : RepL κ (sl .none a :: (l.map (sl .none)).flatMap AVal.cells) _ := hr
    cases hr with
    | cons h1 h2 =>
      obtain ⟨e1, e2⟩ := parts_reps h h2
      refine ⟨by rw [List.length_cons, List.length_cons, e1], fun i v x hv hx => ?_⟩
      cases i with
      | zero => simp at hv hx; subst hv; subst hx; exact holds_of h h1
      | succ i => simp at hv hx; exact e2 i v x hv hx

theorem join_flatten : ∀ (l : List (List UInt8)), Lib.join l [] = l.flatten
  | [] => rfl
  | a :: l => by rw [Lib.join_cons]; unfold joinTail; simp

shelf_lay SlLaysJ.n14 Slb 14 at Try as Try.lays14

abbrev i_bytes_Join : FuncId := Try.lays14_ren.f 14
theorem Join (l : List (List UInt8)) (t u : Tok) (σ : AHeap) (hn : l.length ≤ 140737488355328) (hlen : l.flatten.length ≤ 140737488355328) :
    ACalls Try.prog i_bytes_Join [.slice 1 (l.map (sl .none)) t, .slice 1 [] u] σ fun v σ' => v = sl .none l.flatten ∧ σ' = σ := by
  rw [ACalls_def]
  intro κ w cargs hI hr
  cases hr with | cons h1 hr =>
  cases hr with | cons h2 hr =>
  cases hr
  have hS : HoldsBytes w _ [] := holds_of (l := []) hI h2
  rename_i v1 v2
  rcases h1.slice_inv with ⟨⟨a, rfl⟩, hl⟩ | ⟨b, off, cap, vs, rfl, g2, g3, g4, g5, g6⟩
  · have hl : l = [] := by simpa using hl
    subst hl
    refine (Any.bytes_Join_none Try.lays14 a 0 v2 w).mono fun e w' ⟨he, hw⟩ => ?_
    subst he; subst hw
    have hb : Below w.heap.size w (w.alloc (.cells #[] (Try.lays14_ren.t 5))) := (Below.refl _ w).alloc (Nat.le_refl _) _
    obtain ⟨κ', k1, k2, _⟩ := Inv_fresh hI hb (Nat.le_refl _) (vs := []) (by intro v hv; simp at hv) (by intro i v hv; simp at hv)
    exact ⟨_, κ', σ, _, rfl, k1, k2, .nil, rfl, rfl⟩
  · rw [List.length_map] at g2 ⊢
    obtain ⟨e1, e2⟩ := parts_reps hI g4
    have hcell : ∀ (i : Nat) v, vs[i]? = some v → w.cell? (Addr.add ⟨b, off, none⟩ i) = some v := fun i v hv => by rw [addr_eq]; exact (hI.cell b (off + i) v (g5 i v hv)).1
    match l, vs, e1 with
    | [], _, _ =>
      refine (Any.bytes_Join_none Try.lays14 (some ⟨b, off, none⟩) cap v2 w).mono fun e w' ⟨he, hw⟩ => ?_
      subst he; subst hw
      have hb : Below w.heap.size w (w.alloc (.cells #[] (Try.lays14_ren.t 5))) := (Below.refl _ w).alloc (Nat.le_refl _) _
      obtain ⟨κ', k1, k2, _⟩ := Inv_fresh hI hb (Nat.le_refl _) (vs := []) (by intro v hv; simp at hv) (by intro i v hv; simp at hv)
      exact ⟨_, κ', σ, _, rfl, k1, k2, .nil, rfl, rfl⟩
    | [x], [v0], _ =>
      obtain ⟨p, c0, rfl, hp, hbytes⟩ := e2 0 v0 x rfl rfl
      have hc0 := hcell 0 _ rfl
      rw [addr_eq, Nat.add_zero] at hc0
      by_cases hx : x.length = 0
      · have hx : x = [] := List.length_eq_zero_iff.1 hx
        subst hx
        refine (Any.bytes_Join_one_empty Try.lays14 b off cap p c0 v2 w hc0).mono fun e w' ⟨he, hw⟩ => ?_
        subst he; subst hw
        exact ⟨_, κ, σ, _, rfl, Ghost.le.refl κ, hI, .nil, rfl, rfl⟩
      · cases p with
        | none => rw [hp rfl] at hx; exact absurd rfl hx
        | some a =>
          simp only [List.flatten_cons, List.flatten_nil, List.append_nil] at hlen ⊢
          refine (Any.bytes_Join_one Try.lays14 b off cap a c0 x v2 w hc0 (hbytes a rfl) (by omega) hlen).mono fun e w' ⟨v', he, hf, hb⟩ => ?_
          subst he
          obtain ⟨κ', k1, k2, k3⟩ := of_fresh hI hb hf
          exact ⟨_, κ', σ, _, rfl, k1, k2, k3, rfl, rfl⟩
    | x :: y :: l, vs, e1 =>
      have hlens : Lib.lens (x :: y :: l) = (x :: y :: l).flatten.length := by unfold Lib.lens; rw [List.length_flatten]
      refine (Any.bytes_Join_many Try.lays14 b off (x :: y :: l).length cap vs (x :: y :: l) v2 [] w rfl (by simp) ⟨e1, hcell, e2⟩ g2 hS hn (by rw [hlens]; simpa using hlen)).mono fun e w' ⟨v', he, hf, hb⟩ => ?_
      subst he
      rw [join_flatten] at hf
      obtain ⟨κ', k1, k2, k3⟩ := of_fresh hI hb hf
      exact ⟨_, κ', σ, _, rfl, k1, k2, k3, rfl, rfl⟩
end Go.Proofs.Ytgbpjbpdpgbngaa
/-
  How many bytes lengths have.
-/
namespace Go.Proofs.Ytgbpjbpdpgbngaa
open Go Go.Am

abbrev ints (t : Tok) (l : List Int) : AVal := .slice 1 (l.map i64v) t
theorem get_ints {l : List Int} {i : Nat} (h : i < l.length) : (l.map i64v)[((i : Nat) : Int).toNat]? = some (i64v l[i]) := by
  rw [Int.toNat_natCast, List.getElem?_map, List.getElem?_eq_getElem h]; rfl

def widthOk (w : Int) : Bool := decide (w = 11) || decide (w = 15)
theorem widthOk_iff {w : Int} : widthOk w = true ↔ w = 11 ∨ w = 15 := by simp [widthOk]
theorem widthNo {w : Int} (h : ¬ (w = 11 ∨ w = 15)) : widthOk w = false := by simp only [← widthOk_iff] at h; simpa using h

def sizeV (n w : Int) : Int := if widthOk w = false ∨ n < 1 ∨ n > 23 then 0 else (n * (w + 1) + 7) / 8

theorem lIsWidth (w : Int) (σ : AHeap) : ACalls Try.prog i_lens_isWidth [i64v w] σ fun v σ' => v = boolv (widthOk w) ∧ σ' = σ := by
  refine k_lens_isWidth rfl ?_
  (refine wX ?_)
  by_cases h : w = 11
  · subst h
    (refine wX ?_)
    exact aret_same ⟨rfl, rfl⟩
  · refine abr_no h ?_
    (refine wX ?_)
    refine aret_same ⟨?_, rfl⟩
    unfold widthOk
    rw [decide_eq_false h, Bool.false_or]

theorem lSize (n w : Int) (σ : AHeap) : ACalls Try.prog i_lens_Size [i64v n, i64v w] σ fun v σ' => v = i64v (sizeV n w) ∧ σ' = σ := by
  refine k_lens_Size rfl ?_
  (refine wX ?_)
  refine acall (lIsWidth w _) ?_
  rintro _ σ_ ⟨rfl, e_⟩
  obtain rfl := e_.symm
  refine ⟨?_, Ext.refl _⟩
  (refine wX ?_)
  by_cases hw : w = 11 ∨ w = 15
  · rw [widthOk_iff.2 hw]
    (refine wX ?_)
    by_cases h1 : n < 1
    · (repeat ((refine abr_yes (by omega) ?_); (refine wX ?_)))
      exact aret_same ⟨by unfold sizeV; rw [if_pos (.inr (.inl h1))], rfl⟩
    · by_cases h2 : n > 23
      · (repeat ((first | refine abr_yes (by omega) ?_ | refine abr_no (by omega) ?_); (refine wX ?_)))
        exact aret_same ⟨by unfold sizeV; rw [if_pos (.inr (.inr h2))], rfl⟩
      · (repeat ((first | refine afit_i64 (by omega) ?_ | refine abr_no (by omega) ?_); (refine wX ?_)))
        have e : sizeV n w = (n * (w + 1) + 7) / 8 := by
          unfold sizeV; rw [if_neg]; rw [widthOk_iff.2 hw]
          rintro (h | h | h)
          · cases h
          · exact h1 h
          · exact h2 h
        have hb : 0 ≤ n * (w + 1) ∧ n * (w + 1) ≤ 368 := by
          rcases hw with rfl | rfl <;> omega
        generalize n * (w + 1) = q at hb e
        refine afit_i64 (by omega) ?_
        (refine wX ?_)
        (repeat ((first | refine afit_i64 (by omega) ?_ | refine adiv_i64 (by omega) (by omega) ?_); (refine wX ?_)))
        refine aret_same ⟨?_, rfl⟩
        rw [e, show q + 8 - 1 = q + 7 by omega]
  · rw [widthNo hw]
    (refine wX ?_)
    exact aret_same ⟨by unfold sizeV; rw [if_pos (.inl (widthNo hw))], rfl⟩

theorem sizeV_range (n w : Int) : 0 ≤ sizeV n w ∧ sizeV n w ≤ 50 := by
  unfold sizeV
  split
  · omega
  · rename_i h
    have hw : w = 11 ∨ w = 15 := by
      refine Classical.byContradiction fun hn => h (.inl (widthNo hn))
    have h1 : ¬ n < 1 := fun k => h (.inr (.inl k))
    have h2 : ¬ n > 23 := fun k => h (.inr (.inr k))
    rcases hw with rfl | rfl <;> omega
end Go.Proofs.Ytgbpjbpdpgbngaa
/-
  The numbers of what is kept: the contracts.
-/
namespace Go.Proofs.Ytgbpjbpdpgbngaa
open Go Go.Am Go.Maps Go.MapKept
open Go.RowKit (Below)

theorem ints_ones (l : List Int) : Ones (l.map (Value.int .i64)) := by intro v hv; obtain ⟨x, _, rfl⟩ := List.mem_map.1 hv; rfl
theorem ints_reps (κ : Ghost) : ∀ (l : List Int), RepL κ ((l.map i64v).flatMap AVal.cells) (l.map (Value.int .i64))
  | [] => .nil
  | x :: l => .cons (.v rfl) (ints_reps κ l)
theorem nums_of {κ : Ghost} {σ : AHeap} {w w' : World} (hI : Inv κ σ w) {v : Value} {ks : List Int} (hrow : w'.ownsRow w.heap.size 3 1 v ks.length (ks.map (Value.int .i64))) (hB : Below w.heap.size w w') :
    ∃ κ', κ.le κ' ∧ Inv κ' σ w' ∧ RepV κ' (ints .none ks) v := by
  rcases hrow.2 with ⟨rfl, h0⟩ | ⟨g, cap, cur, rfl, hbase, hb, h1, h2, h3, h4⟩
  · obtain rfl : ks = [] := List.eq_nil_of_length_eq_zero h0
    obtain ⟨κ', k1, k2, _⟩ := Inv_fresh hI hB (Nat.le_refl _) (vs := []) (by intro v hv; simp at hv) (by intro i v hv; simp at hv)
    exact ⟨κ', k1, k2, .nil⟩
  · obtain ⟨κ', k1, k2, k3⟩ := Inv_fresh hI hB hbase (vs := ks.map (Value.int .i64)) (ints_ones ks) (by
      intro i v hv
      have hi : i < ks.length := by have := (List.getElem?_eq_some_iff.1 hv).1; simpa using this
      rw [← h4, List.getElem?_take_of_lt (by omega)] at hv
      unfold World.cell?
      simp only [hb, Option.isSome_none, Bool.false_eq_true, if_false]
      simpa using hv)
    exact ⟨κ', k1, k2, .slice (vs := ks.map (Value.int .i64)) (by rw [List.length_map]) h1 (fun x hx => by obtain ⟨y, _, rfl⟩ := List.mem_map.1 hx; rfl) (ints_reps κ' ks) (fun i v hv => by rw [Nat.zero_add]; exact k3 i v hv) trivial⟩
abbrev inR (n : Int) : Prop := (Lit.int .i64 n).wf = true
theorem buNumbers {σ : AHeap} {ist im : Nat} {es : List (Int × AVal)} (b1 : σ ist = some (.cells [.map im])) (b2 : σ im = some (.map es)) (hn : es.length ≤ 1000000) (hw : ∀ e ∈ es, inR e.1) :
    ACalls Try.prog i_rxbuf_Buffer_Numbers [.ptr ist 0] σ fun v σ' => v = ints .none (sortI (es.map (·.1))) ∧ σ' = σ := by
  rw [ACalls_def]
  intro κ w cargs hI hr
  cases hr with | cons h1 hr =>
  cases hr
  obtain ⟨b, rfl, hb⟩ := h1.ptr_inv
  obtain ⟨b', c, ety, vs, us, k1, k2, k3, k4, k5, k6, k7⟩ := hI.cells ist _ b1
  rw [hb] at k1; cases k1
  cases k5 with | cons r2 k5 =>
  cases k5
  obtain ⟨bm, rfl, hbm⟩ := r2.map_inv
  obtain ⟨b'', c', clk, m1, m2, m3, m4⟩ := hI.map im es b2
  rw [hbm] at m1; cases m1
  have c0 : w.cell? ⟨b, 0, none⟩ = some (.map (some bm)) := by
    unfold World.cell?
    simp only [k2, Option.isSome_none, Bool.false_eq_true, if_false]
    rw [← Array.getElem?_toList, k4]; rfl
  refine (bu_walk b bm w c' clk (es.map (·.1)) c0 m2 (by rw [m3.1, List.map_map]; rfl) m3.2 (by simpa using hn) (fun x hx => by obtain ⟨e, he, rfl⟩ := List.mem_map.1 hx; exact hw e he)).mono ?_
  rintro e w' ⟨v, rfl, hrow, hB⟩
  have hl : (sortI (es.map (·.1))).length = (es.map (·.1)).length := List.length_mergeSort _
  rw [← hl] at hrow
  obtain ⟨κ', a1, a2, a3⟩ := nums_of hI hrow hB
  exact ⟨v, κ', σ, _, rfl, a1, a2, a3, rfl, rfl⟩
end Go.Proofs.Ytgbpjbpdpgbngaa
/-
  Spans: lists of them, and the places that they are.
-/
namespace Go.Proofs.Ytgbpjbpdpgbngaa
open Go Go.Am

abbrev Sp := Int × Int
def spRight (x : Sp) : Bool := decide (0 ≤ x.1 ∧ x.1 < x.2 ∧ x.2 ≤ 65536)
/-- Rising spans behind a place, none of which touches the next one. -/
def Nrm : Int → List Sp → Prop
  | _, [] => True
  | b, y :: l => b < y.1 ∧ y.1 < y.2 ∧ y.2 ≤ 65536 ∧ Nrm y.2 l
def hasP (l : List Sp) (p : Int) : Prop := ∃ y ∈ l, y.1 ≤ p ∧ p < y.2
theorem has_nil {p : Int} : hasP [] p ↔ False := ⟨fun ⟨_, h, _⟩ => (by cases h), False.elim⟩
theorem has_cons {y : Sp} {l : List Sp} {p : Int} : hasP (y :: l) p ↔ (y.1 ≤ p ∧ p < y.2) ∨ hasP l p := by
  unfold hasP
  constructor
  · rintro ⟨z, hz, h⟩
    rcases List.mem_cons.1 hz with rfl | hz
    · exact .inl h
    · exact .inr ⟨z, hz, h⟩
  · rintro (h | ⟨z, hz, h⟩)
    · exact ⟨y, List.mem_cons_self .., h⟩
    · exact ⟨z, List.mem_cons_of_mem _ hz, h⟩
theorem Nrm.weak : ∀ {b b' : Int} {l : List Sp}, b' ≤ b → Nrm b l → Nrm b' l
  | _, _, [], _, _ => trivial
  | _, _, y :: l, h, ⟨h1, h2⟩ => ⟨by omega, h2⟩
theorem Nrm.lo : ∀ {b : Int} {l : List Sp} {p : Int}, Nrm b l → hasP l p → b < p
  | _, [], _, _, h => (has_nil.1 h).elim
  | b, y :: l, p, ⟨h1, h2, h3, h4⟩, h => by
    rcases has_cons.1 h with h | h
    · omega
    · have := Nrm.lo h4 h; omega
theorem Nrm.mem : ∀ {b : Int} {l : List Sp} {y : Sp}, Nrm b l → y ∈ l → b < y.1 ∧ y.1 < y.2 ∧ y.2 ≤ 65536
  | b, z :: l, y, ⟨h1, h2, h3, h4⟩, h => by
    rcases List.mem_cons.1 h with rfl | h
    · exact ⟨h1, h2, h3⟩
    · have := Nrm.mem h4 h; omega
theorem Nrm.last : ∀ {b : Int} {l : List Sp} {z : Sp}, Nrm b (l ++ [z]) → (∀ y ∈ l, y.2 < z.1) ∧ b < z.1 ∧ z.1 < z.2 ∧ z.2 ≤ 65536
  | _, [], z, ⟨g1, g2, g3, _⟩ => ⟨nofun, g1, g2, g3⟩
  | _, y :: l, z, ⟨g1, g2, g3, g4⟩ => by
    obtain ⟨h1, h2, h3, h4⟩ := Nrm.last g4
    refine ⟨fun w hw => ?_, by omega, h3, h4⟩
    rcases List.mem_cons.1 hw with rfl | hw
    · exact h2
    · exact h1 w hw

/-- A span put in; whether it stands there already. -/
def addL (x : Sp) (put : Bool) : List Sp → List Sp
  | [] => if put = true then [] else [x]
  | y :: l => if y.2 < x.1 then y :: addL x put l else if y.1 > x.2 then (if put = true then y :: addL x put l else x :: y :: addL x true l) else addL (min x.1 y.1, max x.2 y.2) put l
theorem addL_true : ∀ {x : Sp} {l : List Sp}, x.1 < x.2 → Nrm x.2 l → addL x true l = l
  | _, [], _, _ => rfl
  | x, y :: l, hx, ⟨h1, h2, h3, h4⟩ => by
    unfold addL
    rw [if_neg (by omega), if_pos h1, if_pos rfl, addL_true hx (h4.weak (by omega))]
theorem addL_spec : ∀ {l : List Sp} {x : Sp} {b : Int}, Nrm b l → b < x.1 → x.1 < x.2 → x.2 ≤ 65536 → Nrm b (addL x false l) ∧ ∀ p, hasP (addL x false l) p ↔ hasP l p ∨ (x.1 ≤ p ∧ p < x.2)
  | [], x, b, _, h1, h2, h3 => ⟨⟨h1, h2, h3, trivial⟩, fun p => by
    show hasP [x] p ↔ _
    rw [has_cons, has_nil]
    exact ⟨fun h => .inr (h.resolve_right id), fun h => .inl (h.resolve_left id)⟩⟩
  | y :: l, x, b, ⟨g1, g2, g3, g4⟩, h1, h2, h3 => by
    unfold addL
    by_cases c1 : y.2 < x.1
    · rw [if_pos c1]
      obtain ⟨k1, k2⟩ := addL_spec g4 c1 h2 h3
      refine ⟨⟨g1, g2, g3, k1⟩, fun p => ?_⟩
      rw [has_cons, has_cons, k2 p, or_assoc]
    · rw [if_neg c1]
      by_cases c2 : y.1 > x.2
      · rw [if_pos c2, if_neg (by decide), addL_true h2 (g4.weak (by omega))]
        refine ⟨⟨h1, h2, h3, c2, g2, g3, g4⟩, fun p => ?_⟩
        rw [has_cons]
        exact Or.comm
      · rw [if_neg c2]
        obtain ⟨k1, k2⟩ := addL_spec (l := l) (x := (min x.1 y.1, max x.2 y.2)) (b := b) (g4.weak (by omega)) (by dsimp only; omega) (by dsimp only; omega) (by dsimp only; omega)
        refine ⟨k1, fun p => ?_⟩
        rw [k2 p, has_cons]
        dsimp only
        constructor
        · rintro (h | h)
          · exact .inl (.inr h)
          · by_cases q : x.1 ≤ p ∧ p < x.2
            · exact .inr q
            · exact .inl (.inl (by omega))
        · rintro ((h | h) | h)
          · exact .inr (by omega)
          · exact .inl h
          · exact .inr (by omega)
theorem addL_len : ∀ (l : List Sp) (x : Sp) (put : Bool), (addL x put l).length ≤ l.length + 1
  | [], x, put => by cases put <;> simp [addL]
  | y :: l, x, put => by
    unfold addL
    split
    · rw [List.length_cons, List.length_cons]; have := addL_len l x put; omega
    · split
      · split
        · rw [List.length_cons, List.length_cons]; have := addL_len l x put; omega
        · rename_i c1 c2 c3
          have hp : ∀ (l : List Sp) (x : Sp), (addL x true l).length ≤ l.length := fun l => by
            induction l with
            | nil => intro x; exact Nat.le_refl _
            | cons y l ih =>
              intro x
              unfold addL
              split
              · rw [List.length_cons, List.length_cons]; exact Nat.succ_le_succ (ih x)
              · split
                · rw [if_pos rfl, List.length_cons, List.length_cons]; exact Nat.succ_le_succ (ih x)
                · rw [List.length_cons]; exact Nat.le_succ_of_le (ih _)
          rw [List.length_cons, List.length_cons, List.length_cons]; have := hp l x; omega
      · rw [List.length_cons]; have := addL_len l (min x.1 y.1, max x.2 y.2) put; omega

def cntL : List Sp → Int
  | [] => 0
  | y :: l => (y.2 - y.1) + cntL l
end Go.Proofs.Ytgbpjbpdpgbngaa
/-
  Spans: the longest runs of places, and how many places there are.
-/
namespace Go.Proofs.Ytgbpjbpdpgbngaa
open Go Go.Am

theorem snoc_cases {α : Type} (l : List α) : l = [] ∨ ∃ r z, l = r ++ [z] := by
  rcases List.eq_nil_or_concat l with h | ⟨r, z, h⟩
  · exact .inl h
  · exact .inr ⟨r, z, by rw [h]; simp⟩
end Go.Proofs.Ytgbpjbpdpgbngaa
/-
  The right to append, beside whatever else is known of the heap.
-/
namespace Go.Proofs.Ytgbpjbpdpgbngaa
open Go Go.Am

theorem sub_none {σ σ' : AHeap} (h : Sub σ σ') {id : Nat} (k : σ id = none) : σ' id = none := by
  cases e : σ' id with
  | none => rfl
  | some o => rw [h _ _ e] at k; cases k
theorem sub_del {σ σb : AHeap} {id : Nat} (h : Sub σ σb) (h1 : σb id = none) : Sub (del σ id) σb := fun j o hj => by
  have hne : j ≠ id := fun e => by subst e; rw [h1] at hj; cases hj
  rw [del_ne _ hne]; exact h _ _ hj
theorem sub_upd {σ σb : AHeap} {id : Nat} (o : AObj) (h : Sub σ σb) (h1 : σb id = none) : Sub (upd σ id o) σb := fun j x hj => by
  have hne : j ≠ id := fun e => by subst e; rw [h1] at hj; cases hj
  rw [upd_ne _ _ hne]; exact h _ _ hj
/-- A token that is there, and is not of the heap below. -/
def TokIn (σ σb : AHeap) (tk : Tok) : Prop := tk = .full ∨ ∃ t, tk = .tip t ∧ σ t = some .tip ∧ σb t = none
theorem TokIn.full (σ σb : AHeap) : TokIn σ σb .full := .inl rfl
theorem TokIn.ne {σ σb : AHeap} {tk : Tok} {id : Nat} (o : AObj) (h : TokIn σ σb tk) (k : ∀ t, tk = .tip t → id ≠ t) : TokIn (upd σ id o) σb tk := by
  rcases h with rfl | ⟨t, rfl, h1, h2⟩
  · exact .inl rfl
  · exact .inr ⟨t, rfl, by rw [upd_ne _ _ (Ne.symm (k t rfl))]; exact h1, h2⟩
theorem TokIn.ne_of {σ σb : AHeap} {tk : Tok} {id : Nat} {o : AObj} (h : TokIn σ σb tk) (k : σ id = some o) (ho : o.isTip = false) : ∀ t, tk = .tip t → id ≠ t := by
  rintro t rfl e
  subst e
  rcases h with h | ⟨t', h0, h1, h2⟩
  · cases h
  · cases h0; rw [h1] at k; cases k; cases ho
/-- Something of the heap below is set. -/
theorem TokIn.set {σ σb : AHeap} {tk : Tok} {id : Nat} {o : AObj} (x : AObj) (h : TokIn σ σb tk) (k : σ id = some o) (ho : o.isTip = false) : TokIn (upd σ id x) σb tk := h.ne x (h.ne_of k ho)
theorem TokIn.ext {σ σ' σb : AHeap} {tk : Tok} (h : TokIn σ σb tk) (k : ∀ t, σ t = some .tip → σ' t = some .tip) : TokIn σ' σb tk := by
  rcases h with rfl | ⟨t, rfl, h1, h2⟩
  · exact .inl rfl
  · exact .inr ⟨t, rfl, k t h1, h2⟩
theorem aapp_in {σ σb : AHeap} {s bytes : Nat} {xs ys : List AVal} {tk : Tok} {K : AVal → AHeap → Prop} (h : TokIn σ σb tk) (hs : Sub σ σb) (hl : (xs.length + ys.length) * bytes ≤ 140737488355328)
    (k : ∀ t' σ', Ext σ σ' → Sub σ' σb → TokIn σ' σb (.tip t') → K (.slice s (xs ++ ys) (.tip t')) σ') : AApp σ s bytes xs tk ys K := by
  rcases h with rfl | ⟨t, rfl, h1, h2⟩
  · refine aapp_full hl fun t ht => k t _ (Ext.upd_fresh _ ht) (sub_upd _ hs (sub_none hs ht)) (.inr ⟨t, rfl, upd_same _ _ _, sub_none hs ht⟩)
  · refine aapp_tip h1 hl fun t' ht' => ?_
    have hb : σb t' = none := sub_none hs ht'
    refine k t' _ (fun id o ho e => ?_) (sub_upd _ (sub_del hs h2) hb) (.inr ⟨t', rfl, upd_same _ _ _, hb⟩)
    have hne : id ≠ t := fun q => by subst q; rw [h1] at e; cases e; cases ho
    have e2 : del σ t id = some o := by rw [del_ne _ hne]; exact e
    rw [upd_ne]; exact e2
    intro q; subst q; rw [e] at ht'; cases ht'
end Go.Proofs.Ytgbpjbpdpgbngaa
/-
  A heap by what is known of it: objects and rights to append that are new, each apart from the others.
-/
namespace Go.Proofs.Ytgbpjbpdpgbngaa
open Go Go.Am

inductive HE where
  | o (i : Nat) (x : AObj)
  | t (k : Tok)
def HE.id : HE → Option Nat
  | .o i _ => some i
  | .t (.tip k) => some k
  | .t _ => none
def HE.ok (σ : AHeap) : HE → Prop
  | .o i x => σ i = some x
  | .t .full => True
  | .t (.tip k) => σ k = some .tip
  | .t _ => False
def ids (L : List HE) : List Nat := L.filterMap HE.id
theorem mem_ids {L : List HE} {i : Nat} : i ∈ ids L ↔ ∃ e ∈ L, e.id = some i := List.mem_filterMap
structure Hp (σb : AHeap) (L : List HE) (σ : AHeap) : Prop where
  sub : Sub σ σb
  nd : (ids L).Nodup
  ok : ∀ e ∈ L, e.ok σ
  new : ∀ i ∈ ids L, σb i = none

theorem HE.ok_ne {e : HE} {σ σ' : AHeap} (h : e.ok σ) (k : ∀ j, e.id = some j → σ' j = σ j) : e.ok σ' := by
  cases e with
  | o j y => exact (k j rfl).trans h
  | t q => cases q with
    | none => exact h
    | full => exact h
    | own _ => exact h
    | tip j => exact (k j rfl).trans h
theorem HE.ok_sub {e : HE} {σ σ' : AHeap} (h : e.ok σ) (k : Sub σ' σ) : e.ok σ' := by
  cases e with
  | o j y => exact k _ _ h
  | t q => cases q with
    | none => exact h
    | full => exact h
    | own _ => exact h
    | tip j => exact k _ _ h
theorem HE.live {e : HE} {σ : AHeap} {i : Nat} (h : e.ok σ) (hi : e.id = some i) : σ i ≠ none := by
  cases e with
  | o j y => cases hi; intro e; rw [show σ i = some y from h] at e; cases e
  | t q => cases q with
    | none => cases hi
    | full => cases hi
    | own _ => cases hi
    | tip j => cases hi; intro e; rw [show σ i = some .tip from h] at e; cases e

theorem perm_erase : ∀ {L : List HE} {k : Nat} {e : HE}, L[k]? = some e → L.Perm (e :: L.eraseIdx k)
  | [], _, _, h => by simp at h
  | a :: l, 0, e, h => by simp at h; subst h; exact .refl _
  | a :: l, k + 1, e, h => ((perm_erase (L := l) (by simpa using h)).cons a).trans (.swap ..)
theorem perm_set : ∀ {L : List HE} {k : Nat} {e : HE}, k < L.length → (e :: L.eraseIdx k).Perm (L.set k e)
  | [], _, _, h => by simp at h
  | a :: l, 0, e, h => .refl _
  | a :: l, k + 1, e, h => (List.Perm.swap ..).trans ((perm_set (L := l) (by simpa using h)).cons a)
theorem del_none {σ : AHeap} {i j : Nat} (h : σ j = none) : del σ i j = none := by unfold del; split <;> simp [h]
namespace Hp
variable {σb σ : AHeap} {L : List HE}
theorem nil (σ : AHeap) : Hp σ [] σ := ⟨Sub.refl _, .nil, nofun, nofun⟩
theorem fresh (H : Hp σb L σ) {i : Nat} (h : σ i = none) : i ∉ ids L ∧ σb i = none :=
  ⟨fun hm => let ⟨e, he, hi⟩ := mem_ids.1 hm; HE.live (H.ok e he) hi h, sub_none H.sub h⟩
theorem cons_o (H : Hp σb L σ) {i : Nat} (h : σ i = none) (x : AObj) : Hp σb (.o i x :: L) (upd σ i x) := by
  obtain ⟨h1, h2⟩ := H.fresh h
  refine ⟨sub_upd _ H.sub h2, List.nodup_cons.2 ⟨h1, H.nd⟩, fun e he => ?_, fun j hj => ?_⟩
  · rcases List.mem_cons.1 he with rfl | he
    · exact upd_same _ _ _
    · exact HE.ok_ne (H.ok e he) fun j hj => upd_ne _ _ fun e' => h1 (mem_ids.2 ⟨e, he, e' ▸ hj⟩)
  · rcases List.mem_cons.1 (show j ∈ i :: ids L from hj) with rfl | hj
    · exact h2
    · exact H.new j hj
theorem cons_tip (H : Hp σb L σ) {i : Nat} (h : σ i = none) : Hp σb (.t (.tip i) :: L) (upd σ i .tip) := by
  obtain ⟨h1, h2⟩ := H.fresh h
  refine ⟨sub_upd _ H.sub h2, List.nodup_cons.2 ⟨h1, H.nd⟩, fun e he => ?_, fun j hj => ?_⟩
  · rcases List.mem_cons.1 he with rfl | he
    · exact upd_same _ _ _
    · exact HE.ok_ne (H.ok e he) fun j hj => upd_ne _ _ fun e' => h1 (mem_ids.2 ⟨e, he, e' ▸ hj⟩)
  · rcases List.mem_cons.1 (show j ∈ i :: ids L from hj) with rfl | hj
    · exact h2
    · exact H.new j hj
theorem cons_full (H : Hp σb L σ) : Hp σb (.t .full :: L) σ :=
  ⟨H.sub, H.nd, fun e he => (List.mem_cons.1 he).elim (fun h => by subst h; trivial) (H.ok e), H.new⟩
theorem perm {L' : List HE} (H : Hp σb L σ) (p : L.Perm L') : Hp σb L' σ :=
  ⟨H.sub, (p.filterMap _).nodup_iff.1 H.nd, fun e he => H.ok e (p.mem_iff.2 he), fun i hi => H.new i ((p.filterMap _).mem_iff.2 hi)⟩
theorem tail {e : HE} (H : Hp σb (e :: L) σ) : Hp σb L σ := by
  refine ⟨H.sub, ?_, fun x hx => H.ok x (List.mem_cons_of_mem _ hx), fun i hi => H.new i ?_⟩
  · have := H.nd
    unfold ids at *
    rw [List.filterMap_cons] at this
    split at this
    · exact this
    · exact (List.nodup_cons.1 this).2
  · obtain ⟨x, hx, hi⟩ := mem_ids.1 hi
    exact mem_ids.2 ⟨x, List.mem_cons_of_mem _ hx, hi⟩
theorem front (H : Hp σb L σ) {k : Nat} {e : HE} (hk : L[k]? = some e) : Hp σb (e :: L.eraseIdx k) σ := by
  exact H.perm (perm_erase hk)
theorem back {k : Nat} {e : HE} (hk : k < L.length) (H : Hp σb (e :: L.eraseIdx k) σ) : Hp σb (L.set k e) σ := H.perm (perm_set hk)
theorem get (H : Hp σb L σ) {k i : Nat} {x : AObj} (hk : L[k]? = some (.o i x)) : σ i = some x := H.ok _ (List.mem_of_getElem? hk)
theorem upd_head {i : Nat} {x : AObj} (H : Hp σb (.o i x :: L) σ) (y : AObj) : Hp σb (.o i y :: L) (upd σ i y) := by
  have h1 : i ∉ ids L := (List.nodup_cons.1 (show (i :: ids L).Nodup from H.nd)).1
  have h2 : σb i = none := H.new i (List.mem_cons_self ..)
  refine ⟨sub_upd _ H.sub h2, H.nd, fun e he => ?_, H.new⟩
  rcases List.mem_cons.1 he with rfl | he
  · exact upd_same _ _ _
  · exact HE.ok_ne (H.ok e (List.mem_cons_of_mem _ he)) fun j hj => upd_ne _ _ fun e' => h1 (mem_ids.2 ⟨e, he, e' ▸ hj⟩)
theorem set (H : Hp σb L σ) {k i : Nat} {x : AObj} (hk : L[k]? = some (.o i x)) (y : AObj) : Hp σb (L.set k (.o i y)) (upd σ i y) :=
  back (List.getElem?_eq_some_iff.1 hk).1 ((H.front hk).upd_head y)
theorem more {σ' : AHeap} (H : Hp σb L σ) (s : Sub σ' σ) : Hp σb L σ' := ⟨s.trans H.sub, H.nd, fun e he => HE.ok_sub (H.ok e he) s, H.new⟩
theorem join {M : List HE} {σ' : AHeap} (H : Hp σb L σ) (N : Hp σ M σ') : Hp σb (M ++ L) σ' := by
  refine ⟨N.sub.trans H.sub, ?_, fun e he => ?_, fun i hi => ?_⟩
  · unfold ids; rw [List.filterMap_append]
    refine List.nodup_append.2 ⟨N.nd, H.nd, fun a ha b hb e => ?_⟩
    subst e
    obtain ⟨x, hx, hi⟩ := mem_ids.1 hb
    exact HE.live (H.ok x hx) hi (N.new a ha)
  · rcases List.mem_append.1 he with he | he
    · exact N.ok e he
    · exact HE.ok_sub (H.ok e he) N.sub
  · unfold ids at hi; rw [List.filterMap_append] at hi
    rcases List.mem_append.1 hi with hi | hi
    · exact sub_none H.sub (N.new i hi)
    · exact H.new i hi
theorem ext {M : List HE} {σ' : AHeap} (N : Hp σ M σ') : Ext σ σ' := fun i o _ e => N.sub i o e
theorem owned {σ' : AHeap} {tk : Tok} (H : Hp σb L σ) (h : Owned σ σ' tk) : Hp σb (.t tk :: L) σ' := by
  rcases h with ⟨rfl, rfl⟩ | ⟨t, h0, rfl, rfl⟩
  · exact H.cons_full
  · exact H.cons_tip h0
/-- The first of two lists alone. -/
theorem left {L M : List HE} (H : Hp σb (L ++ M) σ) : Hp σb L σ := by
  refine ⟨H.sub, ?_, fun e he => H.ok e (List.mem_append_left _ he), fun i hi => H.new i ?_⟩
  · have := H.nd
    unfold ids at this ⊢
    rw [List.filterMap_append] at this
    exact (List.nodup_append.1 this).1
  · obtain ⟨x, hx, hi⟩ := mem_ids.1 hi
    exact mem_ids.2 ⟨x, List.mem_append_left _ hx, hi⟩
theorem comm (L M : List HE) (H : Hp σb (L ++ M) σ) : Hp σb (M ++ L) σ := H.perm List.perm_append_comm
/-- An object is given up. -/
theorem del_head {i : Nat} {x : AObj} (H : Hp σb (.o i x :: L) σ) : Hp σb L (del σ i) := by
  have h1 : i ∉ ids L := (List.nodup_cons.1 (show (i :: ids L).Nodup from H.nd)).1
  have h2 : σb i = none := H.new i (List.mem_cons_self ..)
  refine ⟨sub_del H.sub h2, H.tail.nd, fun e he => ?_, H.tail.new⟩
  exact HE.ok_ne (H.ok e (List.mem_cons_of_mem _ he)) fun j hj => del_ne _ fun e' => h1 (mem_ids.2 ⟨e, he, e' ▸ hj⟩)
theorem del_tip {i : Nat} (H : Hp σb (.t (.tip i) :: L) σ) : Hp σb L (del σ i) := by
  have h1 : i ∉ ids L := (List.nodup_cons.1 (show (i :: ids L).Nodup from H.nd)).1
  have h2 : σb i = none := H.new i (List.mem_cons_self ..)
  refine ⟨sub_del H.sub h2, H.tail.nd, fun e he => ?_, H.tail.new⟩
  exact HE.ok_ne (H.ok e (List.mem_cons_of_mem _ he)) fun j hj => del_ne _ fun e' => h1 (mem_ids.2 ⟨e, he, e' ▸ hj⟩)
end Hp

def setLK : List HE → Nat → HE → (List HE → Prop) → Prop
  | _ :: l, 0, x, k => k (x :: l)
  | e :: l, n + 1, x, k => setLK l n x fun l' => k (e :: l')
  | [], _, _, _ => False
theorem setLK_spec : ∀ {L : List HE} {n : Nat} {x : HE} {k : List HE → Prop}, setLK L n x k → n < L.length ∧ k (L.set n x)
  | [], _, _, _, h => h.elim
  | _ :: _, 0, _, _, h => ⟨Nat.zero_lt_succ _, h⟩
  | e :: l, n + 1, x, k, h => let ⟨a, b⟩ := setLK_spec (L := l) h; ⟨Nat.succ_lt_succ a, b⟩
theorem splice_cons {z : AVal} {zs xs : List AVal} {n : Nat} : splice (z :: zs) (n + 1) xs = z :: splice zs n xs := by
  unfold splice; rw [List.take_succ_cons, show n + 1 + xs.length = (n + xs.length) + 1 by omega, List.drop_succ_cons]; rfl
theorem putK_spec : ∀ {cs : List AVal} {off : Nat} {xs : List AVal} {k : List AVal → Prop}, putK cs off xs k → off + xs.length ≤ cs.length ∧ k (splice cs off xs)
  | cs, 0, [], k, h => ⟨Nat.zero_le _, by unfold splice; simpa [putK] using h⟩
  | z :: zs, 0, x :: xs, k, h => by
    have h : putK zs 0 xs fun l => k (x :: l) := h
    obtain ⟨a, b⟩ := putK_spec h
    refine ⟨by simp only [List.length_cons] at *; omega, ?_⟩
    have e : splice (z :: zs) 0 (x :: xs) = x :: splice zs 0 xs := by unfold splice; simp
    rw [e]; exact b
  | z :: zs, n + 1, xs, k, h => by
    have h : putK zs n xs fun l => k (z :: l) := by cases xs <;> exact h
    obtain ⟨a, b⟩ := putK_spec h
    refine ⟨by simp only [List.length_cons] at *; omega, ?_⟩
    rw [splice_cons]; exact b
  | [], 0, x :: xs, k, h => by exact (show False from h).elim
  | [], n + 1, xs, k, h => by cases xs <;> exact (show False from h).elim
def dtK : List AVal → Nat → Nat → (List AVal → Prop) → Prop
  | _ :: l, o + 1, n, k => dtK l o n k
  | x :: l, 0, n + 1, k => dtK l 0 n fun m => k (x :: m)
  | _, 0, 0, k => k []
  | [], _ + 1, _, _ => False
  | [], 0, _ + 1, _ => False
theorem dtK_spec : ∀ {cs : List AVal} {off n : Nat} {k : List AVal → Prop}, dtK cs off n k → off + n ≤ cs.length ∧ k ((cs.drop off).take n)
  | c :: l, o + 1, n, k, h => by
    have h : dtK l o n k := h
    obtain ⟨a, b⟩ := dtK_spec h
    exact ⟨by simp only [List.length_cons]; omega, by rw [List.drop_succ_cons]; exact b⟩
  | x :: l, 0, n + 1, k, h => by
    have h : dtK l 0 n fun m => k (x :: m) := h
    obtain ⟨a, b⟩ := dtK_spec h
    exact ⟨by simp only [List.length_cons]; omega, by simpa using b⟩
  | c :: l, 0, 0, k, h => ⟨by simp, by simpa [dtK] using h⟩
  | [], 0, 0, k, h => ⟨by simp, by simpa [dtK] using h⟩
  | [], _ + 1, _, _, h => (show False from h).elim
  | [], 0, _ + 1, _, h => (show False from h).elim

theorem acellA {cs : List AVal} {off n : Nat} {K : AVal → Prop} (h : dtK cs off n fun l => K (.agg l)) : ACell cs off (some n) K := let ⟨a, b⟩ := dtK_spec h; acells a rfl b
/-- Where an entry stands in a list. -/
inductive AtK : List HE → Nat → HE → Prop
  | h {e : HE} {l : List HE} : AtK (e :: l) 0 e
  | t {e d : HE} {l : List HE} {k : Nat} : AtK l k e → AtK (d :: l) (k + 1) e
theorem AtK.get {L : List HE} {k : Nat} {e : HE} (h : AtK L k e) : L[k]? = some e := by
  induction h with
  | h => rfl
  | t _ ih => rw [List.getElem?_cons_succ]; exact ih
section ops
variable {σb σ : AHeap} {L : List HE}
theorem hnew (H : Hp σb L σ) {xs : List AVal} {K : Nat → AHeap → Prop} (hc : xs.all AVal.isCell = true) (h : ∀ i σ', Hp σb (.o i (.cells xs) :: L) σ' → K i σ') : ANew σ xs K :=
  anew hc fun i hi => h i _ (H.cons_o hi _)
theorem hnewmap (H : Hp σb L σ) {K : Nat → AHeap → Prop} (h : ∀ i σ', Hp σb (.o i (.map []) :: L) σ' → K i σ') : ANewMap σ K :=
  ⟨fun i hi => h i _ (H.cons_o hi _)⟩
theorem hload (H : Hp σb L σ) {k i off : Nat} {cs : List AVal} {x : AVal} {K : AVal → Prop} (hk : L[k]? = some (.o i (.cells cs))) (hx : cs[off]? = some x) (h : K x) : ALoad σ i off none K :=
  aload (H.get hk) hx h
theorem hloadA (H : Hp σb L σ) {k i off n : Nat} {cs : List AVal} {K : AVal → Prop} (hk : L[k]? = some (.o i (.cells cs))) (h : dtK cs off n fun l => K (.agg l)) : ALoad σ i off (some n) K :=
  let ⟨a, b⟩ := dtK_spec h; aloads (H.get hk) a rfl b
theorem hstore (H : Hp σb L σ) {k i off : Nat} {cs xs : List AVal} {K : AHeap → Prop} (hk : L[k]? = some (.o i (.cells cs))) (hc : xs.all AVal.isCell = true)
    (h : putK cs off xs fun l => setLK L k (.o i (.cells l)) fun L' => ∀ σ', Hp σb L' σ' → K σ') : AStore σ i off xs K :=
  let ⟨a, b⟩ := putK_spec h; let ⟨_, d⟩ := setLK_spec b; astore (H.get hk) a hc rfl (d _ (H.set hk _))
theorem hloadB {σ0 : AHeap} {L : List HE} (H : Hp σ0 L σ) {i off : Nat} {cs : List AVal} {x : AVal} {K : AVal → Prop} (b : σ0 i = some (.cells cs)) (hx : cs[off]? = some x) (h : K x) : ALoad σ i off none K :=
  aload (H.sub _ _ b) hx h
theorem hloadAB {σ0 : AHeap} {L : List HE} (H : Hp σ0 L σ) {i off n : Nat} {cs : List AVal} {K : AVal → Prop} (b : σ0 i = some (.cells cs)) (h : dtK cs off n fun l => K (.agg l)) : ALoad σ i off (some n) K :=
  let ⟨a, c⟩ := dtK_spec h; aloads (H.sub _ _ b) a rfl c
theorem hlookB {σ0 : AHeap} {L : List HE} (H : Hp σ0 L σ) {i : Nat} {es : List (Int × AVal)} {n : Int} {zero : AVal} {K : AVal → Prop} (b : σ0 i = some (.map es)) (h : K (((es.find? fun e => e.1 == n).map (·.2)).getD zero)) : ALook σ i n zero K :=
  ⟨es, H.sub _ _ b, h⟩
theorem hlook (H : Hp σb L σ) {k i : Nat} {es : List (Int × AVal)} {n : Int} {zero : AVal} {K : AVal → Prop} (hk : L[k]? = some (.o i (.map es))) (h : K (((es.find? fun e => e.1 == n).map (·.2)).getD zero)) : ALook σ i n zero K :=
  ⟨es, H.get hk, h⟩
theorem hmset (H : Hp σb L σ) {k i : Nat} {es : List (Int × AVal)} {n : Int} {x : AVal} {K : AHeap → Prop} (hk : L[k]? = some (.o i (.map es))) (hx : x.isCell = true)
    (h : setLK L k (.o i (.map (mapSet es n x))) fun L' => ∀ σ', Hp σb L' σ' → K σ') : AMset σ i n x K :=
  let ⟨_, d⟩ := setLK_spec h; ⟨es, H.get hk, hx, d _ (H.set hk _)⟩
theorem hmdel (H : Hp σb L σ) {k i : Nat} {es : List (Int × AVal)} {n : Int} {K : AHeap → Prop} (hk : L[k]? = some (.o i (.map es)))
    (h : setLK L k (.o i (.map (mapDel es n))) fun L' => ∀ σ', Hp σb L' σ' → K σ') : AMdel σ i n K :=
  let ⟨_, d⟩ := setLK_spec h; ⟨es, H.get hk, d _ (H.set hk _)⟩
theorem happ0 {s bytes : Nat} {xs ys : List AVal} {tk : Tok} {K : AVal → AHeap → Prop} (H : Hp σb (.t tk :: L) σ) (hl : (xs.length + ys.length) * bytes ≤ 140737488355328)
    (h : ∀ tk' σ', Hp σb (.t tk' :: L) σ' → K (.slice s (xs ++ ys) tk') σ') : AApp σ s bytes xs tk ys K := by
  have h0 := H.ok _ (List.mem_cons_self ..)
  cases tk with
  | none => exact h0.elim
  | own _ => exact h0.elim
  | full => exact aapp_full hl fun t ht => h _ _ (H.tail.cons_tip ht)
  | tip t =>
    refine aapp_tip h0 hl fun t' ht' => h _ _ ?_
    exact H.del_tip.cons_tip (del_none ht')
theorem happ {k : Nat} {s bytes : Nat} {xs ys : List AVal} {tk : Tok} {K : AVal → AHeap → Prop} (H : Hp σb L σ) (hk : L[k]? = some (.t tk)) (hl : (xs.length + ys.length) * bytes ≤ 140737488355328)
    (h : ∀ tk', setLK L k (.t tk') fun L' => ∀ σ', Hp σb L' σ' → K (.slice s (xs ++ ys) tk') σ') : AApp σ s bytes xs tk ys K :=
  happ0 (H.front hk) hl fun tk' σ' H' => (setLK_spec (h tk')).2 σ' (H'.back (List.getElem?_eq_some_iff.1 hk).1)
/-- An append to a slice that no right is known of yet but is full. -/
theorem happF {s bytes : Nat} {xs ys : List AVal} {K : AVal → AHeap → Prop} (H : Hp σb L σ) (hl : (xs.length + ys.length) * bytes ≤ 140737488355328)
    (h : ∀ tk' σ', Hp σb (.t tk' :: L) σ' → K (.slice s (xs ++ ys) tk') σ') : AApp σ s bytes xs .full ys K := happ0 H.cons_full hl h
theorem happnew (H : Hp σb L σ) {s bytes : Nat} {ys : List AVal} {K : AVal → AHeap → Prop} (hy : ys ≠ []) (hl : ys.length * bytes ≤ 140737488355328) (ho : ys.all (okElem s) = true)
    (h : ∀ r σ', Hp σb (.o r (.cells (ys.flatMap AVal.cells)) :: L) σ' → K (.ms r s 0 ys.length) σ') : AAppNew σ s bytes [] .full ys K :=
  aappnew hy hl ho fun r hr => h r _ (H.cons_o hr _)
theorem happm (H : Hp σb L σ) {k r s len bytes : Nat} {ys cs : List AVal} {K : AVal → AHeap → Prop} (hk : L[k]? = some (.o r (.cells cs))) (hc : len * s = cs.length) (hl : (len + ys.length) * bytes ≤ 140737488355328) (ho : ys.all (okElem s) = true)
    (h : ∀ r', setLK L k (.o r' (.cells (cs ++ ys.flatMap AVal.cells))) fun L' => ∀ σ', Hp σb L' σ' → K (.ms r' s 0 (len + ys.length)) σ') : AAppM σ r s 0 len bytes ys K := by
  refine aappm (H.get hk) hc hl ho fun r' hr' => (setLK_spec (h r')).2 _ ?_
  refine Hp.back (List.getElem?_eq_some_iff.1 hk).1 ?_
  exact ((H.front hk).del_head).cons_o (del_none hr') _
theorem zL (H : Hp σb L σ) {k i off : Nat} {cs : List AVal} {x : AVal} {K : AVal → Prop} (hk : AtK L k (.o i (.cells cs))) (hx : cs[off]? = some x) (h : K x) : ALoad σ i off none K := hload H hk.get hx h
theorem zA (H : Hp σb L σ) {k i off n : Nat} {cs : List AVal} {K : AVal → Prop} (hk : AtK L k (.o i (.cells cs))) (h : dtK cs off n fun l => K (.agg l)) : ALoad σ i off (some n) K := hloadA H hk.get h
theorem zS (H : Hp σb L σ) {k i off : Nat} {cs xs : List AVal} {K : AHeap → Prop} (hk : AtK L k (.o i (.cells cs))) (hc : xs.all AVal.isCell = true)
    (h : putK cs off xs fun l => setLK L k (.o i (.cells l)) fun L' => ∀ σ', Hp σb L' σ' → K σ') : AStore σ i off xs K := hstore H hk.get hc h
theorem zB {σ0 : AHeap} {L : List HE} (H : Hp σ0 L σ) {i off : Nat} {cs : List AVal} {x : AVal} {K : AVal → Prop} (b : σ0 i = some (.cells cs)) (hx : cs[off]? = some x) (h : K x) : ALoad σ i off none K := hloadB H b hx h
theorem zC {σ0 : AHeap} {L : List HE} (H : Hp σ0 L σ) {i off n : Nat} {cs : List AVal} {K : AVal → Prop} (b : σ0 i = some (.cells cs)) (h : dtK cs off n fun l => K (.agg l)) : ALoad σ i off (some n) K := hloadAB H b h
theorem zMs (H : Hp σb L σ) {k i : Nat} {es : List (Int × AVal)} {n : Int} {x : AVal} {K : AHeap → Prop} (hk : AtK L k (.o i (.map es))) (hx : x.isCell = true)
    (h : setLK L k (.o i (.map (mapSet es n x))) fun L' => ∀ σ', Hp σb L' σ' → K σ') : AMset σ i n x K := hmset H hk.get hx h
theorem zMd (H : Hp σb L σ) {k i : Nat} {es : List (Int × AVal)} {n : Int} {K : AHeap → Prop} (hk : AtK L k (.o i (.map es)))
    (h : setLK L k (.o i (.map (mapDel es n))) fun L' => ∀ σ', Hp σb L' σ' → K σ') : AMdel σ i n K := hmdel H hk.get h
theorem zP {k : Nat} {s bytes : Nat} {xs ys : List AVal} {tk : Tok} {K : AVal → AHeap → Prop} (H : Hp σb L σ) (hk : AtK L k (.t tk)) (hl : (xs.length + ys.length) * bytes ≤ 140737488355328)
    (h : ∀ tk', setLK L k (.t tk') fun L' => ∀ σ', Hp σb L' σ' → K (.slice s (xs ++ ys) tk') σ') : AApp σ s bytes xs tk ys K := happ H hk.get hl h
theorem zR {cs : List AVal} {off : Nat} {x : AVal} {K : AVal → Prop} (hx : cs[off]? = some x) (h : K x) : ACell cs off none K := acell hx h
end ops
end Go.Proofs.Ytgbpjbpdpgbngaa
/-
  Ways that meet again at a loop.
-/
namespace Go.Proofs.Ytgbpjbpdpgbngaa
open Go Go.Am
end Go.Proofs.Ytgbpjbpdpgbngaa
/-
  Spans: what the set's functions tell and change.
-/
namespace Go.Proofs.Ytgbpjbpdpgbngaa
open Go Go.Am

abbrev spV (x : Sp) : AVal := .agg [i64v x.1, i64v x.2]
abbrev spL (t : Tok) (l : List Sp) : AVal := .slice 2 (l.map spV) t
theorem get_sp {l : List Sp} {i : Nat} (h : i < l.length) : (l.map spV)[((i : Nat) : Int).toNat]? = some (spV l[i]) := by
  rw [Int.toNat_natCast, List.getElem?_map, List.getElem?_eq_getElem h]; rfl
theorem sp_snoc (l : List Sp) (x : Sp) : l.map spV ++ [spV x] = (l ++ [x]).map spV := by rw [List.map_append]; rfl
def spCode (l : List Sp) : Int := if l.length > 2048 then 5 else 0
def addC (x : Sp) (l : List Sp) : Int := if spRight x = true then spCode (addL x false l) else 1
def addS (x : Sp) (l : List Sp) : List Sp := if addC x l = 0 then addL x false l else l
def hasS (x : Sp) (l : List Sp) : Bool := spRight x && l.any fun y => decide (y.1 ≤ x.1 ∧ x.2 ≤ y.2)
theorem sRight (x : Sp) (σ : AHeap) : ACalls Try.prog i_spans_Right [spV x] σ fun v σ' => v = boolv (spRight x) ∧ σ' = σ := by
  obtain ⟨a, b⟩ := x
  refine k_spans_Right rfl ?_
  have H := Hp.nil σ
  (refine wX ?_)
  refine hnew H rfl ?_
  clear H
  intro i τ H
  (refine wX ?_)
  (repeat (((apply zL H; (· repeat first | exact .h | apply AtK.t); (· rfl))); (refine wX ?_)))
  by_cases h1 : 0 ≤ a
  · by_cases h2 : a < b
    · (repeat ((first | refine zY (by omega) ?_ | (apply zL H; (· repeat first | exact .h | apply AtK.t); (· rfl))); (refine wX ?_)))
      exact aret (VLe.refl _) H.sub ⟨congrArg boolv (dec_congr (by dsimp only; omega)), rfl⟩
    · (repeat ((first | refine zY (by omega) ?_ | refine zN (by omega) ?_ | (apply zL H; (· repeat first | exact .h | apply AtK.t); (· rfl))); (refine wX ?_)))
      exact aret (VLe.refl _) H.sub ⟨congrArg boolv (decide_eq_false (by dsimp only; omega)).symm, rfl⟩
  · (repeat ((refine zN (by omega) ?_); (refine wX ?_)))
    exact aret (VLe.refl _) H.sub ⟨congrArg boolv (decide_eq_false (by dsimp only; omega)).symm, rfl⟩
section
variable {σb σ : AHeap} {is : Nat} {l : List Sp} {tk : Tok} {F : List HE}
theorem sAsk (x : Sp) (σ : AHeap) : ACalls Try.prog i_spans_Set_ask [.ptr is 0, spV x] σ fun v σ' => v = i64v (if spRight x = true then 0 else 1) ∧ σ' = σ := by
  refine k_spans_Set_ask rfl ?_
  have H := Hp.nil σ
  (refine wX ?_)
  refine hnew H rfl ?_
  clear H
  intro i τ H
  (refine wX ?_)
  (repeat (((apply zA H; (· repeat first | exact .h | apply AtK.t))); (refine wX ?_)))
  refine acall (sRight x τ) ?_
  rintro _ σ_ ⟨rfl, e_⟩
  obtain rfl := e_.symm
  refine ⟨?_, Ext.refl _⟩
  (refine wX ?_)
  cases spRight x
  · (refine wX ?_)
    exact aret (VLe.refl _) H.sub ⟨rfl, rfl⟩
  · (refine wX ?_)
    exact aret (VLe.refl _) H.sub ⟨rfl, rfl⟩
theorem sKeep (H : Hp σb (.o is (.cells [spL tk l]) :: F) σ) (m : List Sp) (u : Tok) (hl : m.length ≤ 1000000) : ACalls Try.prog i_spans_Set_keep [.ptr is 0, spL u m] σ fun v σ' => v = i64v (spCode m) ∧
    ∃ u', Hp σb (.o is (.cells [spL u' (if spCode m = 0 then m else l)]) :: F) σ' := by
  refine k_spans_Set_keep rfl ?_
  (refine wX ?_)
  (repeat ((rw [List.length_map]); (refine wX ?_)))
  unfold spCode
  by_cases h : m.length > 2048
  · rw [if_pos h]
    (repeat ((refine zY (by omega) ?_); (refine wX ?_)))
    exact aret (VLe.refl _) (Sub.refl _) ⟨rfl, tk, H⟩
  · rw [if_neg h]
    (repeat ((first | refine zN (by omega) ?_ | (apply zS H; (· repeat first | exact .h | apply AtK.t); (· rfl); (conv => whnf); clear H; intro τ H)); (refine wX ?_)))
    exact aret (VLe.refl _) (Sub.refl _) ⟨rfl, u, H⟩
theorem addL_cons {x y : Sp} {put : Bool} {l : List Sp} : addL x put (y :: l) = if y.2 < x.1 then y :: addL x put l else if y.1 > x.2 then (if put = true then y :: addL x put l else x :: y :: addL x true l) else addL (min x.1 y.1, max x.2 y.2) put l := rfl
set_option maxRecDepth 20000 in
theorem sAdd (H : Hp σb (.o is (.cells [spL tk l]) :: F) σ) (x : Sp) (hl : l.length ≤ 100000) : ACalls Try.prog i_spans_Set_Add [.ptr is 0, spV x] σ fun v σ' => v = i64v (addC x l) ∧
    ∃ u, Hp σb (.o is (.cells [spL u (addS x l)]) :: F) σ' := by
  obtain ⟨xa, xb⟩ := x
  refine k_spans_Set_Add rfl ?_
  (refine wX ?_)
  refine hnew H rfl ?_
  clear H
  intro ix τ H
  (refine wX ?_)
  replace H : Hp σb (.o ix (.cells [i64v xa, i64v xb]) :: .o is (.cells [spL tk l]) :: F) τ := H
  refine ascope' (α := Nat × List Sp × Tok × Bool × Sp × AHeap) (fun y => [(s7, i64v y.1), (s6, spL y.2.2.1 y.2.1), (s8, boolv y.2.2.2.1)]) (fun y => y.2.2.2.2.2) (fun _ => 0)
    (fun y => y.1 ≤ l.length ∧ y.2.1.length ≤ 2 * y.1 ∧ spRight (xa, xb) = true ∧ y.2.1 ++ addL y.2.2.2.2.1 y.2.2.2.1 (l.drop y.1) = addL (xa, xb) false l ∧
      Hp σb (.t y.2.2.1 :: .o ix (.cells [i64v y.2.2.2.2.1.1, i64v y.2.2.2.2.1.2]) :: .o is (.cells [spL tk l]) :: F) y.2.2.2.2.2) (fun y => l.length - y.1) ?_ ?_
  · (refine wX ?_)
    intro hlab
    (refine wX ?_)
    (repeat (((apply zA H; (· repeat first | exact .h | apply AtK.t))); (refine wX ?_)))
    refine acall (sAsk (is := is) (xa, xb) τ) ?_
    rintro _ σ_ ⟨rfl, e_⟩
    obtain rfl := e_.symm
    refine ⟨?_, Ext.refl _⟩
    (refine wX ?_)
    by_cases hr : spRight (xa, xb) = true
    rotate_left
    · rw [if_neg hr]
      (refine wX ?_)
      refine aret (VLe.refl _) (Sub.refl _) ⟨by unfold addC; rw [if_neg hr], tk, ?_⟩
      unfold addS addC; rw [if_neg hr]
      exact H.tail
    · rw [if_pos hr]
      (refine wX ?_)
      refine hlab _ (fun _ _ _ h => h) _ _ _ _ ⟨(0, [], .full, false, (xa, xb), τ), rfl, ⟨Nat.zero_le _, Nat.zero_le _, hr, by rw [List.drop_zero]; rfl, H.cons_full⟩, rfl, Sub.refl _, ?_⟩
      (refine wX ?_)
      exact elX
  clear H
  rintro ⟨i, out, tk1, put, ⟨a, b⟩, τ⟩ ⟨hi, ho, hr, he, H⟩
  dsimp only at hi ho hr he H
  refine ⟨_, rfl, ?_⟩
  dsimp only
  (refine wX ?_)
  intro hlab
  (refine wX ?_)
  (repeat ((first | (apply zL H; (· repeat first | exact .h | apply AtK.t); (· rfl)) | rw [List.length_map]); (refine wX ?_)))
  by_cases h : i < l.length
  · rw [List.drop_eq_getElem_cons h] at he
    (repeat ((first | refine zY (by omega) ?_ | (apply zL H; (· repeat first | exact .h | apply AtK.t); (· rfl))); (refine wX ?_)))
    refine aget (by omega) (get_sp h) ?_
    generalize l[i] = y at *
    obtain ⟨ya, yb⟩ := y
    (refine wX ?_)
    (repeat ((refine acellA ?_); (refine wX ?_)))
    refine hnew H rfl ?_
    clear H
    intro iy τ H
    (refine wX ?_)
    (repeat ((first | (apply zL H; (· repeat first | exact .h | apply AtK.t); (· rfl)) | (apply zS H; (· repeat first | exact .h | apply AtK.t); (· rfl); (conv => whnf); clear H; intro τ H)); (refine wX ?_)))
    rw [addL_cons] at he
    dsimp only at he
    by_cases c1 : yb < a
    · rw [if_pos c1] at he
      (repeat ((first | refine zY (by omega) ?_ | (apply zA H; (· repeat first | exact .h | apply AtK.t))); (refine wX ?_)))
      apply zP H
      · (repeat first | exact .h | apply AtK.t)
      · exact (by rw [List.length_map]; show (_ + 1) * 16 ≤ _; omega)
      intro tk2
      (conv => whnf)
      clear H
      intro τ H
      (refine wX ?_)
      rw [show [AVal.agg [i64v ya, i64v yb]] = [spV (ya, yb)] from rfl, sp_snoc]
      (repeat ((refine zI (by omega) ?_); (refine wX ?_)))
      refine ⟨(i + 1, out ++ [(ya, yb)], tk2, put, (a, b), τ), rfl, ⟨h, by dsimp only; rw [List.length_append, List.length_singleton]; omega, hr, by dsimp only; rw [← he, List.append_assoc]; rfl, H.tail⟩, by dsimp only; omega, Sub.refl _, ?_⟩
      (refine wX ?_)
      exact elX
    rw [if_neg c1] at he
    (repeat ((first | refine zN (by omega) ?_ | (apply zL H; (· repeat first | exact .h | apply AtK.t); (· rfl))); (refine wX ?_)))
    by_cases c2 : ya > b
    · rw [if_pos c2] at he
      (repeat ((refine zY (by omega) ?_); (refine wX ?_)))
      cases put
      · rw [if_neg (by decide)] at he
        (refine wX ?_)
        (repeat (((apply zA H; (· repeat first | exact .h | apply AtK.t))); (refine wX ?_)))
        apply zP H
        · (repeat first | exact .h | apply AtK.t)
        · exact (by rw [List.length_map]; show (_ + 1) * 16 ≤ _; omega)
        intro tk2
        (conv => whnf)
        clear H
        intro τ H
        (refine wX ?_)
        rw [show [AVal.agg [i64v a, i64v b]] = [spV (a, b)] from rfl, sp_snoc]
        (repeat (((apply zA H; (· repeat first | exact .h | apply AtK.t))); (refine wX ?_)))
        apply zP H
        · (repeat first | exact .h | apply AtK.t)
        · exact (by rw [List.length_map, List.length_append, List.length_singleton]; show (_ + 1) * 16 ≤ _; omega)
        intro tk3
        (conv => whnf)
        clear H
        intro τ H
        (refine wX ?_)
        rw [show [AVal.agg [i64v ya, i64v yb]] = [spV (ya, yb)] from rfl, sp_snoc]
        (repeat ((refine zI (by omega) ?_); (refine wX ?_)))
        refine ⟨(i + 1, out ++ [(a, b)] ++ [(ya, yb)], tk3, true, (a, b), τ), rfl, ⟨h, by dsimp only; rw [List.length_append, List.length_append, List.length_singleton]; simp only [List.length_singleton]; omega, hr, by dsimp only; rw [← he, List.append_assoc, List.append_assoc]; rfl, H.tail⟩, by dsimp only; omega, Sub.refl _, ?_⟩
        (refine wX ?_)
        exact elX
      · rw [if_pos rfl] at he
        (refine wX ?_)
        (repeat (((apply zA H; (· repeat first | exact .h | apply AtK.t))); (refine wX ?_)))
        apply zP H
        · (repeat first | exact .h | apply AtK.t)
        · exact (by rw [List.length_map]; show (_ + 1) * 16 ≤ _; omega)
        intro tk2
        (conv => whnf)
        clear H
        intro τ H
        (refine wX ?_)
        rw [show [AVal.agg [i64v ya, i64v yb]] = [spV (ya, yb)] from rfl, sp_snoc]
        (repeat ((refine zI (by omega) ?_); (refine wX ?_)))
        refine ⟨(i + 1, out ++ [(ya, yb)], tk2, true, (a, b), τ), rfl, ⟨h, by dsimp only; rw [List.length_append, List.length_singleton]; omega, hr, by dsimp only; rw [← he, List.append_assoc]; rfl, H.tail⟩, by dsimp only; omega, Sub.refl _, ?_⟩
        (refine wX ?_)
        exact elX
    · rw [if_neg c2] at he
      (repeat ((first | refine zI (by omega) ?_ | refine zN (by omega) ?_ | refine amin ?_ | refine amax ?_ | (apply zL H; (· repeat first | exact .h | apply AtK.t); (· rfl)) | (apply zS H; (· repeat first | exact .h | apply AtK.t); (· rfl); (conv => whnf); clear H; intro τ H)); (refine wX ?_)))
      refine ⟨(i + 1, out, tk1, put, (min a ya, max b yb), τ), rfl, ⟨h, by dsimp only; omega, hr, by dsimp only; exact he, H.tail⟩, by dsimp only; omega, Sub.refl _, ?_⟩
      (refine wX ?_)
      exact elX
  · rw [List.drop_eq_nil_of_le (by omega)] at he
    (repeat ((refine zN (by omega) ?_); (refine wX ?_)))
    have hC : addC (xa, xb) l = spCode (addL (xa, xb) false l) := by unfold addC; rw [if_pos hr]
    have hS : addS (xa, xb) l = if spCode (addL (xa, xb) false l) = 0 then addL (xa, xb) false l else l := by unfold addS; rw [hC]
    rw [hC, hS, ← he]
    cases put
    · (refine wX ?_)
      (repeat (((apply zA H; (· repeat first | exact .h | apply AtK.t))); (refine wX ?_)))
      apply zP H
      · (repeat first | exact .h | apply AtK.t)
      · exact (by rw [List.length_map]; show (_ + 1) * 16 ≤ _; omega)
      intro tk2
      (conv => whnf)
      clear H
      intro τ H
      (refine wX ?_)
      rw [show [AVal.agg [i64v a, i64v b]] = [spV (a, b)] from rfl, sp_snoc]
      have H2 := H.tail.tail
      refine acall (sKeep H2 (out ++ [(a, b)]) tk2 (by rw [List.length_append, List.length_singleton]; omega)) ?_
      clear H H2
      rintro _ τ ⟨rfl, u, H⟩
      (refine wX ?_)
      exact aret (VLe.refl _) (Sub.refl _) ⟨rfl, u, H⟩
    · (refine wX ?_)
      have H2 := H.tail.tail
      refine acall (sKeep H2 out tk1 (by omega)) ?_
      clear H H2
      rintro _ τ ⟨rfl, u, H⟩
      (refine wX ?_)
      have e : out ++ addL (a, b) true [] = out := List.append_nil _
      rw [e]
      exact aret (VLe.refl _) (Sub.refl _) ⟨rfl, u, H⟩
end
end Go.Proofs.Ytgbpjbpdpgbngaa
/-
  Spans: what a set tells.
-/
namespace Go.Proofs.Ytgbpjbpdpgbngaa
set_option maxRecDepth 20000
open Go Go.Am

theorem sClone (l : List Sp) (t : Tok) (σ : AHeap) (hl : l.length ≤ 1000000) : ACalls Try.prog i_spans_Span [spL t l] σ fun v σ' => ∃ tk, Owned σ σ' tk ∧ v = spL tk l := by
  refine k_spans_Span rfl ?_
  (conv => whnf)
  refine anil ?_ ?_
  · (conv => whnf)
    refine abr_false rfl ?_
    (conv => whnf)
    refine aapp_full (by simp; omega) fun t' ht' => ?_
    (conv => whnf)
    exact aret_same ⟨_, .tip ht', rfl⟩
  · intro h0
    (conv => whnf)
    refine abr_true rfl ?_
    (conv => whnf)
    have : l = [] := by simpa using h0
    subst this
    exact aret_same ⟨_, .full σ, rfl⟩
theorem sSpans {σ : AHeap} {is : Nat} {l : List Sp} {tk : Tok} (b1 : σ is = some (.cells [spL tk l])) (hl : l.length ≤ 1000000) : ACalls Try.prog i_spans_Set_Spans [.ptr is 0] σ fun v σ' => ∃ u, Owned σ σ' u ∧ v = spL u l := by
  refine k_spans_Set_Spans rfl ?_
  have H := Hp.nil σ
  (refine wX ?_)
  (repeat ((refine zB H b1 rfl ?_); (refine wX ?_)))
  refine acall (sClone l tk σ hl) ?_
  rintro _ τ ⟨u, hu, rfl⟩
  refine ⟨?_, hu.ext⟩
  (refine wX ?_)
  exact aret (VLe.refl _) (Sub.refl _) ⟨u, hu, rfl⟩
theorem sIndex {g ix : Nat} {b : AObj} {p : Sp → Bool} (hg : callB Try.prog g = true) (hc : ∀ y σ, σ ix = some b → ACalls Try.prog g [spV y, .ptr ix 0] σ fun v σ' => v = boolv (p y) ∧ σ' = σ) (l : List Sp) (t : Tok) (σ : AHeap) (hs : σ ix = some b) (hl : l.length ≤ 1000000) :
    ACalls Try.prog i_slices_IndexFunc_spans_Span [spL t l, .func g [] [.ptr ix 0]] σ fun v σ' => (∃ n : Int, v = i64v n ∧ (n ≥ 0 ↔ l.any p = true)) ∧ σ' = σ := by
  refine k_slices_IndexFunc_spans_Span rfl ?_
  (refine wX ?_)
  refine aloop (α := Nat) (fun i => [(s8, i64v i)]) (fun _ => σ) (fun i => i ≤ l.length ∧ (l.take i).any p = false) (fun i => l.length - i) 0 ⟨Nat.zero_le _, rfl⟩ (Sub.refl _) ?_ ?_
  · (refine wX ?_)
    exact elX
  rintro i ⟨hi, hw⟩
  by_cases h : i < l.length
  · (refine wX ?_)
    (repeat ((first | refine abr_yes (by omega) ?_ | rw [List.length_map]); (refine wX ?_)))
    refine aget (by omega) (get_sp h) ?_
    (refine wX ?_)
    refine acellA ?_
    (refine wX ?_)
    refine ⟨hg, ?_⟩
    (refine wX ?_)
    refine acall (hc l[i] _ hs) ?_
    rintro _ σ_ ⟨rfl, e_⟩
    obtain rfl := e_.symm
    (refine wX ?_)
    have e : (l.take (i + 1)).any p = p l[i] := by rw [List.take_add_one, List.getElem?_eq_getElem h, List.any_append, hw]; simp
    cases hp : p l[i]
    · rw [hp] at e
      (refine wX ?_)
      (repeat ((refine afit_i64 (by omega) ?_); (refine wX ?_)))
      refine ⟨i + 1, ⟨by omega, e⟩, by omega, Sub.refl _, ?_⟩
      (refine wX ?_)
      exact elX
    · (refine wX ?_)
      refine aret_same ⟨⟨_, rfl, ⟨fun _ => ?_, fun _ => by omega⟩⟩, rfl⟩
      exact List.any_eq_true.2 ⟨l[i], List.getElem_mem h, hp⟩
  · rw [List.take_of_length_le (by omega)] at hw
    (refine wX ?_)
    (repeat ((first | refine abr_no (by omega) ?_ | rw [List.length_map]); (refine wX ?_)))
    exact aret_same ⟨⟨-1, rfl, ⟨fun h => by omega, fun h => by rw [hw] at h; cases h⟩⟩, rfl⟩
theorem sContains {g ix : Nat} {b : AObj} {p : Sp → Bool} (hg : callB Try.prog g = true) (hc : ∀ y σ, σ ix = some b → ACalls Try.prog g [spV y, .ptr ix 0] σ fun v σ' => v = boolv (p y) ∧ σ' = σ) (l : List Sp) (t : Tok) (σ : AHeap) (hs : σ ix = some b) (hl : l.length ≤ 1000000) :
    ACalls Try.prog i_slices_ContainsFunc_spans_Span [spL t l, .func g [] [.ptr ix 0]] σ fun v σ' => v = boolv (l.any p) ∧ σ' = σ := by
  refine k_slices_ContainsFunc_spans_Span rfl ?_
  (refine wX ?_)
  refine acall (sIndex hg hc l t _ hs hl) ?_
  rintro _ σ_ ⟨⟨n, rfl, hn⟩, e_⟩
  obtain rfl := e_.symm
  refine ⟨?_, Ext.refl _⟩
  (refine wX ?_)
  have e : l.any p = decide (0 ≤ n) := by
    cases hh : l.any p with
    | true => exact (decide_eq_true (hn.2 hh)).symm
    | false => exact (decide_eq_false (fun k => by rw [hn.1 k] at hh; cases hh)).symm
  rw [e]
  exact aret_same ⟨congrArg boolv (dec_congr Iff.rfl), rfl⟩
theorem sHas1 (x : Sp) {ix : Nat} (y : Sp) (σ : AHeap) (b1 : σ ix = some (.cells [i64v x.1, i64v x.2])) : ACalls Try.prog i_spans_Set_Has_1 [spV y, .ptr ix 0] σ fun v σ' => v = boolv (decide (y.1 ≤ x.1 ∧ x.2 ≤ y.2)) ∧ σ' = σ := by
  obtain ⟨xa, xb⟩ := x
  obtain ⟨ya, yb⟩ := y
  refine k_spans_Set_Has_1 rfl ?_
  have H := Hp.nil σ
  (refine wX ?_)
  refine hnew H rfl ?_
  clear H
  intro iy τ H
  (refine wX ?_)
  (repeat ((first | refine zB H b1 rfl ?_ | (apply zL H; (· repeat first | exact .h | apply AtK.t); (· rfl))); (refine wX ?_)))
  by_cases h : ya ≤ xa
  · (repeat ((first | refine zY (by omega) ?_ | refine zB H b1 rfl ?_ | (apply zL H; (· repeat first | exact .h | apply AtK.t); (· rfl))); (refine wX ?_)))
    exact aret (VLe.refl _) H.sub ⟨congrArg boolv (dec_congr (by dsimp only; omega)), rfl⟩
  · (repeat ((refine zN (by omega) ?_); (refine wX ?_)))
    exact aret (VLe.refl _) H.sub ⟨congrArg boolv (decide_eq_false (by dsimp only; omega)).symm, rfl⟩
theorem sHas (x : Sp) {σ : AHeap} {is : Nat} {l : List Sp} {tk : Tok} (b1 : σ is = some (.cells [spL tk l])) (hl : l.length ≤ 1000000) : ACalls Try.prog i_spans_Set_Has [.ptr is 0, spV x] σ fun v σ' => v = boolv (hasS x l) ∧ σ' = σ := by
  obtain ⟨xa, xb⟩ := x
  refine k_spans_Set_Has rfl ?_
  have H := Hp.nil σ
  (refine wX ?_)
  refine hnew H rfl ?_
  clear H
  intro ix τ H
  (refine wX ?_)
  (repeat (((apply zA H; (· repeat first | exact .h | apply AtK.t))); (refine wX ?_)))
  refine acall (sAsk (is := is) (xa, xb) τ) ?_
  rintro _ σ_ ⟨rfl, e_⟩
  obtain rfl := e_.symm
  refine ⟨?_, Ext.refl _⟩
  (refine wX ?_)
  unfold hasS
  by_cases hr : spRight (xa, xb) = true
  · rw [if_pos hr, hr]
    (repeat ((first | refine zY (by omega) ?_ | refine zB H b1 rfl ?_); (refine wX ?_)))
    refine acall (sContains rfl (sHas1 (xa, xb)) l tk τ (H.get (k := 0) rfl) hl) ?_
    rintro _ σ_ ⟨rfl, e_⟩
    obtain rfl := e_.symm
    refine ⟨?_, Ext.refl _⟩
    (refine wX ?_)
    exact aret (VLe.refl _) H.sub ⟨rfl, rfl⟩
  · rw [if_neg hr, Bool.eq_false_iff.2 hr]
    (repeat ((refine zN (by omega) ?_); (refine wX ?_)))
    exact aret (VLe.refl _) H.sub ⟨rfl, rfl⟩
theorem cnt_take {l : List Sp} {i : Nat} (h : i < l.length) : cntL (l.take (i + 1)) = cntL (l.take i) + (l[i].2 - l[i].1) := by
  have ap : ∀ a b : List Sp, cntL (a ++ b) = cntL a + cntL b := fun a b => by
    induction a with
    | nil => show cntL b = 0 + _; omega
    | cons y a ih => show (y.2 - y.1) + cntL (a ++ b) = (y.2 - y.1) + cntL a + _; rw [ih]; omega
  rw [List.take_add_one, List.getElem?_eq_getElem h, ap]
  show _ + ((l[i].2 - l[i].1) + 0) = _; omega
set_option maxRecDepth 20000 in
theorem sCount {σ : AHeap} {is : Nat} {l : List Sp} {tk : Tok} (b1 : σ is = some (.cells [spL tk l])) (hl : l.length ≤ 1000000) (hn : ∀ y ∈ l, 0 ≤ y.1 ∧ y.1 ≤ y.2 ∧ y.2 ≤ 65536) : ACalls Try.prog i_spans_Set_Count [.ptr is 0] σ fun v σ' => v = i64v (cntL l) ∧ σ' = σ := by
  refine k_spans_Set_Count rfl ?_
  have H := Hp.nil σ
  (refine wX ?_)
  (repeat ((first | refine zB H b1 rfl ?_ | rw [List.length_map]); (refine wX ?_)))
  refine aloop (α := Nat) (fun i => [(s13, i64v i), (s3, i64v (cntL (l.take i)))]) (fun _ => σ) (fun i => i ≤ l.length ∧ 0 ≤ cntL (l.take i) ∧ cntL (l.take i) ≤ 65536 * i) (fun i => l.length - i) 0 ⟨Nat.zero_le _, Int.le_refl _, Int.le_refl _⟩ (Sub.refl _) ?_ ?_
  · (refine wX ?_)
    exact elX
  rintro i ⟨hi, h0, h1⟩
  (refine wX ?_)
  by_cases h : i < l.length
  · have e := cnt_take h
    have q := hn l[i] (List.getElem_mem h)
    (repeat ((refine zY (by omega) ?_); (refine wX ?_)))
    refine aget (by omega) (get_sp h) ?_
    (refine wX ?_)
    (repeat ((refine acellA ?_); (refine wX ?_)))
    refine hnew H rfl ?_
    clear H
    intro iy τ H
    (refine wX ?_)
    (repeat ((first | refine zI (by omega) ?_ | (apply zL H; (· repeat first | exact .h | apply AtK.t); (· rfl)) | (apply zS H; (· repeat first | exact .h | apply AtK.t); (· rfl); (conv => whnf); clear H; intro τ H)); (refine wX ?_)))
    have e2 : cntL (l.take i) + (l[i].2 - l[i].1) = cntL (l.take (i + 1)) := e.symm
    refine ⟨i + 1, ⟨h, by omega, by omega⟩, by omega, H.sub, ?_⟩
    rw [← e2]
    (refine wX ?_)
    exact elX
  · rw [List.take_of_length_le (by omega)]
    (repeat ((refine zN (by omega) ?_); (refine wX ?_)))
    exact aret (VLe.refl _) (Sub.refl _) ⟨rfl, rfl⟩
end Go.Proofs.Ytgbpjbpdpgbngaa
/-
  Spans: a new set; what a change of one keeps.
-/
namespace Go.Proofs.Ytgbpjbpdpgbngaa
open Go Go.Am

def newG (acc : List Sp) : List Sp → Int × List Sp
  | [] => (0, acc)
  | x :: l => if addC x acc = 0 then newG (addS x acc) l else (addC x acc, acc)
theorem spCode_len {l : List Sp} (h : spCode l = 0) : l.length ≤ 2048 := by
  unfold spCode at h; split at h <;> omega
theorem addC_zero {x : Sp} {l : List Sp} (h : addC x l = 0) : spRight x = true ∧ (addL x false l).length ≤ 2048 ∧ addS x l = addL x false l := by
  refine ⟨?_, ?_, by unfold addS; rw [if_pos h]⟩ <;> unfold addC at h <;> split at h
  · assumption
  · omega
  · exact spCode_len h
  · omega
theorem addS_len {x : Sp} {l : List Sp} : (addS x l).length ≤ l.length + 1 := by
  unfold addS; split
  · exact addL_len l x false
  · omega
theorem sNew (l : List Sp) (t : Tok) (σ : AHeap) (hl : l.length ≤ 1000) : ACalls Try.prog i_spans_New [spL t l] σ fun v σ' =>
    ((newG [] l).1 ≠ 0 ∧ v = .tup [.v (.pointer none), i64v (newG [] l).1] ∧ σ' = σ) ∨ ((newG [] l).1 = 0 ∧ ∃ is u, v = .tup [.ptr is 0, i64v 0] ∧ Hp σ [.o is (.cells [spL u (newG [] l).2])] σ') := by
  refine k_spans_New rfl ?_
  have H := Hp.nil σ
  (refine wX ?_)
  refine hnew H rfl ?_
  clear H
  intro is τ H
  (refine wX ?_)
  replace H : Hp σ [.o is (.cells [spL .full []])] τ := H
  refine aloop (α := Nat × List Sp × Tok × AHeap) (fun y => [(s12, i64v y.1)]) (fun y => y.2.2.2) (fun y => y.1 ≤ l.length ∧ y.2.1.length ≤ y.1 ∧ newG y.2.1 (l.drop y.1) = newG [] l ∧ Hp σ [.o is (.cells [spL y.2.2.1 y.2.1])] y.2.2.2) (fun y => l.length - y.1)
    (0, [], .full, τ) ⟨Nat.zero_le _, Nat.zero_le _, rfl, H⟩ (Sub.refl _) ?_ ?_
  · (refine wX ?_)
    exact elX
  clear H
  rintro ⟨i, acc, u, τ⟩ ⟨hi, ha, he, H⟩
  dsimp only at hi ha he H ⊢
  (refine wX ?_)
  by_cases h : i < l.length
  · rw [List.drop_eq_getElem_cons h] at he
    (repeat ((first | refine zY (by omega) ?_ | rw [List.length_map]); (refine wX ?_)))
    refine aget (by omega) (get_sp h) ?_
    generalize l[i] = y at *
    (refine wX ?_)
    (repeat ((refine acellA ?_); (refine wX ?_)))
    refine hnew H rfl ?_
    clear H
    intro iy τ H
    (refine wX ?_)
    (repeat ((first | (apply zA H; (· repeat first | exact .h | apply AtK.t)) | (apply zS H; (· repeat first | exact .h | apply AtK.t); (· rfl); (conv => whnf); clear H; intro τ H)); (refine wX ?_)))
    refine acall (sAdd H.tail y (by omega)) ?_
    clear H
    rintro _ τ ⟨rfl, u, H⟩
    (refine wX ?_)
    rw [show newG acc (y :: l.drop (i + 1)) = if addC y acc = 0 then newG (addS y acc) (l.drop (i + 1)) else (addC y acc, acc) from rfl] at he
    by_cases hc : addC y acc = 0
    · rw [if_pos hc] at he
      rw [hc]
      (refine wX ?_)
      (repeat ((refine zI (by omega) ?_); (refine wX ?_)))
      refine ⟨(i + 1, addS y acc, u, τ), ⟨h, by have := addS_len (x := y) (l := acc); dsimp only; omega, he, H⟩, by dsimp only; omega, Sub.refl _, ?_⟩
      (refine wX ?_)
      exact elX
    · rw [if_neg hc] at he
      refine abr_yes hc ?_
      (refine wX ?_)
      exact aret (VLe.refl _) H.sub (.inl ⟨by rw [← he]; exact hc, by rw [← he], rfl⟩)
  · rw [List.drop_eq_nil_of_le (by omega)] at he
    (repeat ((first | refine zN (by omega) ?_ | rw [List.length_map]); (refine wX ?_)))
    have e : newG [] l = (0, acc) := he.symm
    exact aret (VLe.refl _) (Sub.refl _) (.inr ⟨by rw [e], is, u, rfl, by rw [e]; exact H⟩)

/-- What a set's spans keep. -/
structure SOk (l : List Sp) : Prop where
  n : Nrm (-1) l
  k : l.length ≤ 2048
theorem SOk.nil : SOk [] := ⟨trivial, Nat.zero_le _⟩
theorem SOk.small {l : List Sp} (h : SOk l) : l.length ≤ 100000 := Nat.le_trans h.k (by omega)
theorem SOk.mid {l : List Sp} (h : SOk l) : l.length ≤ 1000000 := Nat.le_trans h.k (by omega)
theorem SOk.mem {l : List Sp} (h : SOk l) : ∀ y ∈ l, 0 ≤ y.1 ∧ y.1 ≤ y.2 ∧ y.2 ≤ 65536 := fun y hy => by have := h.n.mem hy; omega
theorem spRight_iff {x : Sp} : spRight x = true ↔ 0 ≤ x.1 ∧ x.1 < x.2 ∧ x.2 ≤ 65536 := decide_eq_true_iff
theorem SOk.add {l : List Sp} (h : SOk l) (x : Sp) : SOk (addS x l) := by
  by_cases hc : addC x l = 0
  · obtain ⟨h1, h2, h3⟩ := addC_zero hc
    rw [h3]
    have := spRight_iff.1 h1
    exact ⟨(addL_spec h.n (by omega) this.2.1 this.2.2).1, h2⟩
  · unfold addS; rw [if_neg hc]; exact h
theorem add_has {l : List Sp} (h : SOk l) {x : Sp} (hc : addC x l = 0) (p : Int) : hasP (addS x l) p ↔ hasP l p ∨ (x.1 ≤ p ∧ p < x.2) := by
  obtain ⟨h1, h2, h3⟩ := addC_zero hc
  rw [h3]
  have := spRight_iff.1 h1
  exact (addL_spec h.n (by omega) this.2.1 this.2.2).2 p
theorem add_no {l : List Sp} {x : Sp} (hc : addC x l ≠ 0) : addS x l = l := by unfold addS; rw [if_neg hc]
/-- All of a span's places lie in one span. -/
theorem Nrm.all : ∀ {b : Int} {l : List Sp} {x : Sp}, Nrm b l → x.1 < x.2 → (∀ p, x.1 ≤ p → p < x.2 → hasP l p) → ∃ y ∈ l, y.1 ≤ x.1 ∧ x.2 ≤ y.2
  | _, [], x, _, h, k => (has_nil.1 (k x.1 (Int.le_refl _) h)).elim
  | _, y :: l, x, ⟨g1, g2, g3, g4⟩, h, k => by
    by_cases c : y.1 ≤ x.1 ∧ x.1 < y.2
    · refine ⟨y, List.mem_cons_self .., c.1, ?_⟩
      by_cases c2 : x.2 ≤ y.2
      · exact c2
      · rcases has_cons.1 (k y.2 (by omega) (by omega)) with q | q
        · omega
        · have := g4.lo q; omega
    · obtain ⟨z, hz, q⟩ := Nrm.all g4 h fun p h1 h2 => by
        rcases has_cons.1 (k p h1 h2) with q | q
        · rcases has_cons.1 (k x.1 (Int.le_refl _) h) with q2 | q2
          · exact (c q2).elim
          · have := g4.lo q2; omega
        · exact q
      exact ⟨z, List.mem_cons_of_mem _ hz, q⟩
theorem hasS_iff {l : List Sp} (h : SOk l) {x : Sp} : hasS x l = true ↔ spRight x = true ∧ ∀ p, x.1 ≤ p → p < x.2 → hasP l p := by
  unfold hasS
  rw [Bool.and_eq_true, List.any_eq_true]
  constructor
  · rintro ⟨h1, y, hy, h2⟩
    have := of_decide_eq_true h2
    exact ⟨h1, fun p a b => ⟨y, hy, by omega, by omega⟩⟩
  · rintro ⟨h1, h2⟩
    obtain ⟨y, hy, q⟩ := h.n.all (spRight_iff.1 h1).2.1 h2
    exact ⟨h1, y, hy, decide_eq_true q⟩
end Go.Proofs.Ytgbpjbpdpgbngaa
/-
  The numbers of what is kept: sums over them.
-/
namespace Go.Proofs.Ytgbpjbpdpgbngaa
open Go Go.Am

/-- What is due of each. -/
def dueSum (dl : Int → List Sp) (ks : List Int) : Int := (ks.map fun k => cntL (dl k)).sum
theorem sum_perm {a b : List Int} (h : a.Perm b) : a.sum = b.sum := by
  induction h with
  | nil => rfl
  | cons x _ ih => rw [List.sum_cons, List.sum_cons, ih]
  | swap x y l => rw [List.sum_cons, List.sum_cons, List.sum_cons, List.sum_cons]; omega
  | trans _ _ h1 h2 => rw [h1, h2]
theorem dueSum_perm {dl : Int → List Sp} {a b : List Int} (h : a.Perm b) : dueSum dl a = dueSum dl b := by
  unfold dueSum
  exact sum_perm (h.map _)
theorem dueSum_take {dl : Int → List Sp} {ks : List Int} {i : Nat} (h : i < ks.length) : dueSum dl (ks.take (i + 1)) = dueSum dl (ks.take i) + cntL (dl ks[i]) := by
  unfold dueSum
  rw [List.take_add_one, List.getElem?_eq_getElem h, Option.toList_some, List.map_append, List.sum_append]; simp
theorem Nrm.cnt : ∀ {b : Int} {l : List Sp}, -1 ≤ b → Nrm b l → 0 ≤ cntL l ∧ (cntL l ≤ 65536 - (b + 1) ∨ cntL l = 0)
  | _, [], _, _ => ⟨by decide, .inr rfl⟩
  | b, y :: l, hb, h => by
    obtain ⟨h1, h2, h3, h4⟩ := h
    obtain ⟨g1, g2⟩ := Nrm.cnt (b := y.2) (by omega) h4
    unfold cntL
    omega
theorem cntL_bound {l : List Sp} (h : SOk l) : 0 ≤ cntL l ∧ cntL l ≤ 65536 := by
  have := h.n.cnt (Int.le_refl _)
  omega
theorem get_ints' {l : List Int} {i : Nat} (h : i < l.length) : (l.map i64v)[((i : Nat) : Int).toNat]? = some (i64v l[i]) := by
  rw [Int.toNat_natCast, List.getElem?_map, List.getElem?_eq_getElem h]; rfl
theorem find_key {es : List (Int × AVal)} {k : Int} (h : k ∈ es.map (·.1)) : ∃ e ∈ es, es.find? (fun e => e.1 == k) = some e ∧ e.1 = k := by
  cases hf : es.find? fun e => e.1 == k with
  | none =>
    obtain ⟨e, he, rfl⟩ := List.mem_map.1 h
    have := List.find?_eq_none.1 hf e he
    simp at this
  | some e => exact ⟨e, List.mem_of_find?_eq_some hf, rfl, by have := List.find?_some hf; simpa using this⟩
end Go.Proofs.Ytgbpjbpdpgbngaa
/-
  Lists of byte strings.
-/
namespace Go.Proofs.Ytgbpjbpdpgbngaa
open Go Go.Am

abbrev lists (t : Tok) (l : List (List UInt8)) : AVal := .slice 1 (l.map (sl .none)) t
abbrev u16n (n : Nat) : AVal := .v (.int .u16 n)
theorem get_lists {l : List (List UInt8)} {i : Nat} (h : i < l.length) : (l.map (sl .none))[((i : Nat) : Int).toNat]? = some (sl .none l[i]) := by
  rw [Int.toNat_natCast, List.getElem?_map, List.getElem?_eq_getElem h]; rfl
theorem get_u16n {l : List Nat} {i : Nat} (h : i < l.length) : (l.map u16n)[((i : Nat) : Int).toNat]? = some (u16n l[i]) := by
  rw [Int.toNat_natCast, List.getElem?_map, List.getElem?_eq_getElem h]; rfl

/-- How many bytes all are. -/
def total (l : List (List UInt8)) : Nat := l.flatten.length
theorem total_nil : total [] = 0 := rfl
theorem total_cons (a : List UInt8) (l : List (List UInt8)) : total (a :: l) = a.length + total l := by unfold total; simp
theorem total_append (a b : List (List UInt8)) : total (a ++ b) = total a + total b := by unfold total; simp
theorem total_take_succ (l : List (List UInt8)) (i : Nat) (h : i < l.length) : total (l.take (i + 1)) = total (l.take i) + l[i].length := by
  rw [List.take_add_one, List.getElem?_eq_getElem h, total_append]; unfold total; simp
theorem total_take_le (l : List (List UInt8)) (i : Nat) : total (l.take i) ≤ total l := by
  have := total_append (l.take i) (l.drop i)
  rw [List.take_append_drop] at this
  omega
theorem total_get {l : List (List UInt8)} {i : Nat} (h : i < l.length) : l[i].length ≤ total l := by
  have h1 := total_take_succ l i h
  have h2 := total_take_le l (i + 1)
  omega
end Go.Proofs.Ytgbpjbpdpgbngaa
/-
  Bits in bytes: plain laws.
-/
namespace Go.Proofs.Ytgbpjbpdpgbngaa
open Go Go.Am

def byte8 (a b c d e f g h : Bool) : UInt8 :=
  UInt8.ofNat (a.toNat * 128 + b.toNat * 64 + c.toNat * 32 + d.toNat * 16 + e.toNat * 8 + f.toNat * 4 + g.toNat * 2 + h.toNat)
def bitD (l : List Bool) (i : Nat) : Bool := l[i]?.getD false
/-- The byte at a place of a list of bits, filled up with noughts. -/
def byteAt (l : List Bool) (i : Nat) : UInt8 := byte8 (bitD l (8 * i)) (bitD l (8 * i + 1)) (bitD l (8 * i + 2)) (bitD l (8 * i + 3)) (bitD l (8 * i + 4)) (bitD l (8 * i + 5)) (bitD l (8 * i + 6)) (bitD l (8 * i + 7))
/-- A list of bits, as bytes. -/
def pack (l : List Bool) : List UInt8 := (List.range ((l.length + 7) / 8)).map (byteAt l)
theorem pack_length (l : List Bool) : (pack l).length = (l.length + 7) / 8 := by unfold pack; simp

theorem bitD_snoc (l : List Bool) (b : Bool) (i : Nat) : bitD (l ++ [b]) i = if i = l.length then b else bitD l i := by
  unfold bitD
  by_cases h : i = l.length
  · subst h; simp
  · rw [if_neg h]
    by_cases h2 : i < l.length
    · rw [List.getElem?_append_left h2]
    · rw [List.getElem?_eq_none (by simp; omega), List.getElem?_eq_none (by omega)]
theorem bitD_out {l : List Bool} {i : Nat} (h : l.length ≤ i) : bitD l i = false := by unfold bitD; rw [List.getElem?_eq_none h]; rfl

def orBit (x : UInt8) (b : Bool) (k : Nat) : UInt8 := x ||| UInt8.ofNat (b.toNat * 2 ^ (7 - k))
theorem or_byte8 : ∀ (a b c d e f g h x : Bool), orBit (byte8 false false false false false false false false) x 0 = byte8 x false false false false false false false ∧
    orBit (byte8 a false false false false false false false) x 1 = byte8 a x false false false false false false ∧ orBit (byte8 a b false false false false false false) x 2 = byte8 a b x false false false false false ∧
    orBit (byte8 a b c false false false false false) x 3 = byte8 a b c x false false false false ∧ orBit (byte8 a b c d false false false false) x 4 = byte8 a b c d x false false false ∧
    orBit (byte8 a b c d e false false false) x 5 = byte8 a b c d e x false false ∧ orBit (byte8 a b c d e f false false) x 6 = byte8 a b c d e f x false ∧ orBit (byte8 a b c d e f g false) x 7 = byte8 a b c d e f g x := by decide +kernel

theorem byteAt_snoc (l : List Bool) (b : Bool) : byteAt (l ++ [b]) (l.length / 8) = orBit (byteAt l (l.length / 8)) b (l.length % 8) := by
  obtain ⟨q, k, hk, hl⟩ : ∃ q k, k < 8 ∧ l.length = 8 * q + k := ⟨l.length / 8, l.length % 8, by omega, by omega⟩
  have hq : l.length / 8 = q := by omega
  have hr : l.length % 8 = k := by omega
  rw [hq, hr]
  unfold byteAt
  have key : ∀ j, bitD (l ++ [b]) (8 * q + j) = if j = k then b else bitD l (8 * q + j) := by
    intro j; rw [bitD_snoc]
    by_cases h : j = k
    · rw [if_pos (by omega), if_pos h]
    · rw [if_neg (by omega), if_neg h]
  have hout : ∀ j, k ≤ j → bitD l (8 * q + j) = false := fun j hj => bitD_out (by omega)
  have k0 := key 0
  rw [Nat.add_zero] at k0
  have o0 := hout 0
  rw [Nat.add_zero] at o0
  have H := or_byte8 (bitD l (8 * q)) (bitD l (8 * q + 1)) (bitD l (8 * q + 2)) (bitD l (8 * q + 3)) (bitD l (8 * q + 4)) (bitD l (8 * q + 5)) (bitD l (8 * q + 6)) (bitD l (8 * q + 7)) b
  rw [k0, key 1, key 2, key 3, key 4, key 5, key 6, key 7]
  match k, hk with
  | 0, _ => simp [o0, hout]; exact H.1.symm
  | 1, _ => simp [hout]; exact H.2.1.symm
  | 2, _ => simp [hout]; exact H.2.2.1.symm
  | 3, _ => simp [hout]; exact H.2.2.2.1.symm
  | 4, _ => simp [hout]; exact H.2.2.2.2.1.symm
  | 5, _ => simp [hout]; exact H.2.2.2.2.2.1.symm
  | 6, _ => simp [hout]; exact H.2.2.2.2.2.2.1.symm
  | 7, _ => simp [hout]; exact H.2.2.2.2.2.2.2.symm

theorem byteAt_other (l : List Bool) (b : Bool) {i : Nat} (h : i ≠ l.length / 8) : byteAt (l ++ [b]) i = byteAt l i := by
  have key : ∀ j, j < 8 → bitD (l ++ [b]) (8 * i + j) = bitD l (8 * i + j) := fun j hj => by rw [bitD_snoc, if_neg (by omega)]
  have k0 := key 0 (by omega)
  rw [Nat.add_zero] at k0
  unfold byteAt
  rw [k0, key 1 (by omega), key 2 (by omega), key 3 (by omega), key 4 (by omega), key 5 (by omega), key 6 (by omega), key 7 (by omega)]

/-- One bit more, as the writer puts it. -/
def grow (l : List Bool) : List UInt8 := if l.length % 8 = 0 then pack l ++ [0] else pack l
theorem grow_length (l : List Bool) : (grow l).length = l.length / 8 + 1 := by
  unfold grow; split
  · rw [List.length_append, pack_length]; simp; omega
  · rw [pack_length]; omega
theorem grow_get (l : List Bool) (i : Nat) (h : i < l.length / 8 + 1) : (grow l)[i]? = some (byteAt l i) := by
  unfold grow pack; split
  · by_cases h2 : i < (l.length + 7) / 8
    · rw [List.getElem?_append_left (by simpa using h2)]; simp [h2]
    · have : i = (l.length + 7) / 8 := by omega
      subst this
      rw [List.getElem?_append_right (by simp)]
      simp
      have hout : ∀ j, bitD l (8 * ((l.length + 7) / 8) + j) = false := fun j => bitD_out (by omega)
      have h0 := hout 0
      rw [Nat.add_zero] at h0
      unfold byteAt
      rw [h0, hout, hout, hout, hout, hout, hout, hout]; rfl
  · have h2 : i < (l.length + 7) / 8 := by omega
    simp [h2]
theorem pack_get {l : List Bool} {i : Nat} (h : i < (l.length + 7) / 8) : (pack l)[i]? = some (byteAt l i) := by
  unfold pack; rw [List.getElem?_map, List.getElem?_range h]; rfl
theorem pack_snoc (l : List Bool) (b : Bool) : pack (l ++ [b]) = (grow l).set (l.length / 8) (orBit (byteAt l (l.length / 8)) b (l.length % 8)) := by
  apply List.ext_getElem?
  intro i
  rw [List.getElem?_set, grow_length]
  by_cases h : l.length / 8 = i
  · subst h
    rw [if_pos rfl, if_pos (by omega), ← byteAt_snoc]
    exact pack_get (by rw [List.length_append]; show _ < (l.length + 1 + 7) / 8; omega)
  · rw [if_neg h]
    by_cases h2 : i < l.length / 8 + 1
    · rw [grow_get l i h2, ← byteAt_other l b (Ne.symm h)]
      exact pack_get (by rw [List.length_append]; show _ < (l.length + 1 + 7) / 8; omega)
    · rw [List.getElem?_eq_none (by rw [pack_length, List.length_append]; show (l.length + 1 + 7) / 8 ≤ i; omega), List.getElem?_eq_none (by rw [grow_length]; omega)]
end Go.Proofs.Ytgbpjbpdpgbngaa
/-
  What the functions of the package of bits do.
-/
namespace Go.Proofs.Ytgbpjbpdpgbngaa
open Go Go.Am

/-- A writer at an object, with its bits; the heap without it. -/
def Wr (σ : AHeap) (id : Nat) (bs : List Bool) (σb : AHeap) : Prop :=
  σb id = none ∧ ((bs = [] ∧ σ = upd σb id (.cells [.slice 1 [] .full, i64v bs.length])) ∨
    (bs ≠ [] ∧ ∃ r, r ≠ id ∧ σb r = none ∧ σ = upd (upd σb r (.cells ((pack bs).map byteV))) id (.cells [.ms r 1 0 (pack bs).length, i64v bs.length])))

theorem or8 (x : UInt8) (y : Nat) (hy : y < 256) : bitsOp .or .u8 (x.toNat : Int) (y : Int) = ((x ||| UInt8.ofNat y).toNat : Int) := by
  have h1 : BitVec.ofInt 8 (x.toNat : Int) = x.toBitVec := by
    apply BitVec.eq_of_toNat_eq
    have := x.toNat_lt
    simp
  have h2 : BitVec.ofInt 8 (y : Int) = (UInt8.ofNat y).toBitVec := by
    apply BitVec.eq_of_toNat_eq
    simp
  show IntKind.u8.wrap ((BitVec.ofInt 8 (x.toNat : Int) ||| BitVec.ofInt 8 (y : Int)).toNat) = _
  rw [h1, h2]; exact wrap_u8 (by omega) (by have := (x.toBitVec ||| (UInt8.ofNat y).toBitVec).isLt; omega)

theorem bit_lt (b : Bool) {k : Nat} (hk : k ≤ 7) : b.toNat * 2 ^ k < 256 := by
  have h1 : b.toNat ≤ 1 := by cases b <;> decide
  have h2 : 2 ^ k ≤ 2 ^ 7 := Nat.pow_le_pow_right (by omega) hk
  calc b.toNat * 2 ^ k ≤ 1 * 2 ^ 7 := Nat.mul_le_mul h1 h2
    _ < 256 := by decide
theorem shl_bit (b : Bool) {k : Nat} (hk : k ≤ 7) : IntKind.u8.wrap ((b.toNat : Int) * 2 ^ (min ((k : Nat) : Int).toNat IntKind.u8.bits)) = ((b.toNat * 2 ^ k : Nat) : Int) := by
  rw [Int.toNat_natCast, Nat.min_eq_left (show k ≤ IntKind.u8.bits from Nat.le_trans hk (by decide))]
  have := bit_lt b hk
  have e : (b.toNat : Int) * 2 ^ k = ((b.toNat * 2 ^ k : Nat) : Int) := by simp
  rw [e]; exact wrap_u8 (by omega) (by omega)

set_option maxRecDepth 10000 in
theorem one (id : Nat) (bs : List Bool) (b : Bool) (σ σb : AHeap) (h : Wr σ id bs σb) (hl : bs.length ≤ 70000) : ACalls Try.prog i_bits_Writer_one [.ptr id 0, u8v b.toNat] σ fun v σ' => v = .tup [] ∧ Wr σ' id (bs ++ [b]) σb := by
  obtain ⟨hid, h⟩ := h
  have hgl := grow_length bs
  refine km_bits_Writer_one rfl ?_
  (refine wX ?_)
  rcases h with ⟨hnil, rfl⟩ | ⟨hne, r, hri, hr, rfl⟩
  · refine aload (upd_same _ _ _) rfl ?_
    (refine wX ?_)
    refine arem_nonneg (by omega) (by omega) ?_
    (refine wX ?_)
    refine abr_yes (by rw [hnil]; rfl) ?_
    (refine wX ?_)
    refine aload (upd_same _ _ _) rfl ?_
    (refine wX ?_)
    refine aappnew nofun (by decide) rfl fun r hr0 => ?_
    have hri : r ≠ id := fun e => by subst e; rw [upd_same] at hr0; cases hr0
    have hr : σb r = none := by rw [upd_ne _ _ hri] at hr0; exact hr0
    have hg : grow bs = [0] := by rw [hnil]; rfl
    have hgm : List.flatMap AVal.cells [AVal.v (Value.int IntKind.u8 0)] = (grow bs).map byteV := by rw [hg]; rfl
    have hgl2 : [AVal.v (Value.int IntKind.u8 0)].length = (grow bs).length := by rw [hg]; rfl
    rw [hgm, hgl2]
    (refine wX ?_)
    refine astore (xs := [.ms r 1 0 (grow bs).length]) (l := [.ms r 1 0 (grow bs).length, i64v bs.length]) (by rw [upd_ne _ _ (Ne.symm hri)]; exact upd_same _ _ _) (Nat.le_of_ble_eq_true rfl) rfl rfl ?_
    rw [upd_comm _ _ _ hri, upd_upd, upd_comm _ _ _ (Ne.symm hri)]
    (refine wX ?_)
    refine aload (upd_same _ _ _) rfl ?_
    (refine wX ?_)
    refine aload (upd_same _ _ _) rfl ?_
    (refine wX ?_)
    refine adiv_i64 (by omega) (by omega) ?_
    (refine wX ?_)
    refine aidx (by omega) (by omega) ?_
    rw [show 0 + (((bs.length : Nat) : Int) / 8).toNat * 1 = bs.length / 8 by omega]
    (refine wX ?_)
    refine aload (cs := (grow bs).map byteV) (by rw [upd_ne _ _ hri]; exact upd_same _ _ _) (by rw [List.getElem?_map, grow_get bs _ (by omega)]; rfl) ?_
    (refine wX ?_)
    refine aload (upd_same _ _ _) rfl ?_
    (refine wX ?_)
    refine arem_nonneg (by omega) (by omega) ?_
    rw [show (((bs.length : Nat) : Int) % 8) = ((bs.length % 8 : Nat) : Int) by omega]
    (refine wX ?_)
    refine afit_i64 (by omega) ?_
    rw [show (7 : Int) - ((bs.length % 8 : Nat) : Int) = ((7 - bs.length % 8 : Nat) : Int) by omega]
    (refine wX ?_)
    refine ashl_eq (m := ((b.toNat * 2 ^ (7 - bs.length % 8) : Nat) : Int)) (by omega) (shl_bit b (by omega)) ?_
    (refine wX ?_)
    refine abits_eq (or8 _ _ (bit_lt b (by omega))) ?_
    (refine wX ?_)
    refine aidx (by omega) (by omega) ?_
    rw [show 0 + (((bs.length : Nat) : Int) / 8).toNat * 1 = bs.length / 8 by omega]
    (refine wX ?_)
    refine astore (by rw [upd_ne _ _ hri]; exact upd_same _ _ _) (by rw [List.length_map, hgl]; show bs.length / 8 + 1 ≤ _; omega) rfl (splice_set (x := orBit (byteAt bs (bs.length / 8)) b (bs.length % 8)) (by rw [hgl]; omega)) ?_
    rw [← pack_snoc, upd_comm _ _ _ (Ne.symm hri), upd_upd]
    (refine wX ?_)
    refine aload (upd_same _ _ _) rfl ?_
    (refine wX ?_)
    refine afit_i64 (by omega) ?_
    (refine wX ?_)
    refine astore (l := [.ms r 1 0 (grow bs).length, i64v (((bs.length : Nat) : Int) + 1)]) (upd_same _ _ _) (Nat.le_of_ble_eq_true rfl) rfl rfl ?_
    rw [upd_upd]
    (refine wX ?_)
    refine aret_same ⟨rfl, hid, .inr ⟨by simp, r, hri, hr, ?_⟩⟩
    have e1 : (pack (bs ++ [b])).length = (grow bs).length := by rw [hgl, pack_length, List.length_append]; show (bs.length + 1 + 7) / 8 = _; omega
    rw [e1, List.length_append]
    rfl
  · refine aload (upd_same _ _ _) rfl ?_
    (refine wX ?_)
    refine arem_nonneg (by omega) (by omega) ?_
    (refine wX ?_)
    refine abr_dec (fun h8 => ?_) (fun h8 => ?_)
    · (refine wX ?_)
      refine aload (upd_same _ _ _) rfl ?_
      (refine wX ?_)
      refine aappm (cs := (pack bs).map byteV) (by rw [upd_ne _ _ hri]; exact upd_same _ _ _) (by simp) (by rw [pack_length]; show ((bs.length + 7) / 8 + 1) * 1 ≤ _; omega) rfl fun r2 hr2 => ?_
      have hr2i : r2 ≠ id := fun e => by subst e; rw [upd_same] at hr2; cases hr2
      have hr2b : σb r2 = none := by
        rw [upd_ne _ _ hr2i] at hr2
        by_cases e : r2 = r
        · subst e; exact hr
        · rw [upd_ne _ _ e] at hr2; exact hr2
      have hg : pack bs ++ [0] = grow bs := by unfold grow; rw [if_pos (by omega)]
      have hgm : (pack bs).map byteV ++ List.flatMap AVal.cells [AVal.v (Value.int IntKind.u8 0)] = (grow bs).map byteV := by rw [← hg, List.map_append]; rfl
      have hgl2 : (pack bs).length + [AVal.v (Value.int IntKind.u8 0)].length = (grow bs).length := by rw [← hg, List.length_append]; rfl
      rw [hgm, hgl2, del_upd_comm _ _ (Ne.symm hri), del_upd _ _ _ hr]
      (refine wX ?_)
      refine astore (xs := [.ms r2 1 0 (grow bs).length]) (l := [.ms r2 1 0 (grow bs).length, i64v bs.length]) (by rw [upd_ne _ _ (Ne.symm hr2i)]; exact upd_same _ _ _) (Nat.le_of_ble_eq_true rfl) rfl rfl ?_
      rw [upd_comm _ _ _ hr2i, upd_upd, upd_comm _ _ _ (Ne.symm hr2i)]
      clear hr hri
      have hri := hr2i
      have hr := hr2b
      (refine wX ?_)
      refine aload (upd_same _ _ _) rfl ?_
      (refine wX ?_)
      refine aload (upd_same _ _ _) rfl ?_
      (refine wX ?_)
      refine adiv_i64 (by omega) (by omega) ?_
      (refine wX ?_)
      refine aidx (by omega) (by omega) ?_
      rw [show 0 + (((bs.length : Nat) : Int) / 8).toNat * 1 = bs.length / 8 by omega]
      (refine wX ?_)
      refine aload (cs := (grow bs).map byteV) (by rw [upd_ne _ _ hri]; exact upd_same _ _ _) (by rw [List.getElem?_map, grow_get bs _ (by omega)]; rfl) ?_
      (refine wX ?_)
      refine aload (upd_same _ _ _) rfl ?_
      (refine wX ?_)
      refine arem_nonneg (by omega) (by omega) ?_
      rw [show (((bs.length : Nat) : Int) % 8) = ((bs.length % 8 : Nat) : Int) by omega]
      (refine wX ?_)
      refine afit_i64 (by omega) ?_
      rw [show (7 : Int) - ((bs.length % 8 : Nat) : Int) = ((7 - bs.length % 8 : Nat) : Int) by omega]
      (refine wX ?_)
      refine ashl_eq (m := ((b.toNat * 2 ^ (7 - bs.length % 8) : Nat) : Int)) (by omega) (shl_bit b (by omega)) ?_
      (refine wX ?_)
      refine abits_eq (or8 _ _ (bit_lt b (by omega))) ?_
      (refine wX ?_)
      refine aidx (by omega) (by omega) ?_
      rw [show 0 + (((bs.length : Nat) : Int) / 8).toNat * 1 = bs.length / 8 by omega]
      (refine wX ?_)
      refine astore (by rw [upd_ne _ _ hri]; exact upd_same _ _ _) (by rw [List.length_map, hgl]; show bs.length / 8 + 1 ≤ _; omega) rfl (splice_set (x := orBit (byteAt bs (bs.length / 8)) b (bs.length % 8)) (by rw [hgl]; omega)) ?_
      rw [← pack_snoc, upd_comm _ _ _ (Ne.symm hri), upd_upd]
      (refine wX ?_)
      refine aload (upd_same _ _ _) rfl ?_
      (refine wX ?_)
      refine afit_i64 (by omega) ?_
      (refine wX ?_)
      refine astore (l := [.ms r2 1 0 (grow bs).length, i64v (((bs.length : Nat) : Int) + 1)]) (upd_same _ _ _) (Nat.le_of_ble_eq_true rfl) rfl rfl ?_
      rw [upd_upd]
      (refine wX ?_)
      refine aret_same ⟨rfl, hid, .inr ⟨by simp, r2, hri, hr, ?_⟩⟩
      have e1 : (pack (bs ++ [b])).length = (grow bs).length := by rw [hgl, pack_length, List.length_append]; show (bs.length + 1 + 7) / 8 = _; omega
      rw [e1, List.length_append]
      rfl
    · have hg : pack bs = grow bs := by unfold grow; rw [if_neg (by omega)]
      rw [hg]
      (refine wX ?_)
      refine aload (upd_same _ _ _) rfl ?_
      (refine wX ?_)
      refine aload (upd_same _ _ _) rfl ?_
      (refine wX ?_)
      refine adiv_i64 (by omega) (by omega) ?_
      (refine wX ?_)
      refine aidx (by omega) (by omega) ?_
      rw [show 0 + (((bs.length : Nat) : Int) / 8).toNat * 1 = bs.length / 8 by omega]
      (refine wX ?_)
      refine aload (cs := (grow bs).map byteV) (by rw [upd_ne _ _ hri]; exact upd_same _ _ _) (by rw [List.getElem?_map, grow_get bs _ (by omega)]; rfl) ?_
      (refine wX ?_)
      refine aload (upd_same _ _ _) rfl ?_
      (refine wX ?_)
      refine arem_nonneg (by omega) (by omega) ?_
      rw [show (((bs.length : Nat) : Int) % 8) = ((bs.length % 8 : Nat) : Int) by omega]
      (refine wX ?_)
      refine afit_i64 (by omega) ?_
      rw [show (7 : Int) - ((bs.length % 8 : Nat) : Int) = ((7 - bs.length % 8 : Nat) : Int) by omega]
      (refine wX ?_)
      refine ashl_eq (m := ((b.toNat * 2 ^ (7 - bs.length % 8) : Nat) : Int)) (by omega) (shl_bit b (by omega)) ?_
      (refine wX ?_)
      refine abits_eq (or8 _ _ (bit_lt b (by omega))) ?_
      (refine wX ?_)
      refine aidx (by omega) (by omega) ?_
      rw [show 0 + (((bs.length : Nat) : Int) / 8).toNat * 1 = bs.length / 8 by omega]
      (refine wX ?_)
      refine astore (by rw [upd_ne _ _ hri]; exact upd_same _ _ _) (by rw [List.length_map, hgl]; show bs.length / 8 + 1 ≤ _; omega) rfl (splice_set (x := orBit (byteAt bs (bs.length / 8)) b (bs.length % 8)) (by rw [hgl]; omega)) ?_
      rw [← pack_snoc, upd_comm _ _ _ (Ne.symm hri), upd_upd]
      (refine wX ?_)
      refine aload (upd_same _ _ _) rfl ?_
      (refine wX ?_)
      refine afit_i64 (by omega) ?_
      (refine wX ?_)
      refine astore (l := [.ms r 1 0 (grow bs).length, i64v (((bs.length : Nat) : Int) + 1)]) (upd_same _ _ _) (Nat.le_of_ble_eq_true rfl) rfl rfl ?_
      rw [upd_upd]
      (refine wX ?_)
      refine aret_same ⟨rfl, hid, .inr ⟨by simp, r, hri, hr, ?_⟩⟩
      have e1 : (pack (bs ++ [b])).length = (grow bs).length := by rw [hgl, pack_length, List.length_append]; show (bs.length + 1 + 7) / 8 = _; omega
      rw [e1, List.length_append]
      rfl
end Go.Proofs.Ytgbpjbpdpgbngaa
/-
  Numbers and their bits: plain laws.
-/
namespace Go.Proofs.Ytgbpjbpdpgbngaa
open Go Go.Am

/-- The bits of a number, the highest first. -/
def numBits (v : Nat) : Nat → List Bool
  | 0 => []
  | n + 1 => v.testBit n :: numBits v n
theorem numBits_length (v n : Nat) : (numBits v n).length = n := by
  induction n with
  | zero => rfl
  | succ n ih => simp [numBits, ih]
theorem testBit_nat (v i : Nat) : (v.testBit i).toNat = v / 2 ^ i % 2 := Nat.toNat_testBit v i

/-- The number that bits are, behind a number. -/
def val (a : Nat) : List Bool → Nat
  | [] => a
  | b :: l => val (2 * a + b.toNat) l
theorem val_append (a : Nat) (l m : List Bool) : val a (l ++ m) = val (val a l) m := by
  induction l generalizing a with
  | nil => rfl
  | cons b l ih => simp [val, ih]
theorem val_eq (a : Nat) (l : List Bool) : val a l = a * 2 ^ l.length + val 0 l := by
  induction l generalizing a with
  | nil => simp [val]
  | cons b l ih =>
    have h1 := ih (2 * a + b.toNat)
    have h2 := ih (2 * 0 + b.toNat)
    simp only [val, List.length_cons]
    rw [h1, h2, Nat.pow_succ, Nat.add_mul, Nat.add_mul]
    have e : 2 * a * 2 ^ l.length = a * (2 ^ l.length * 2) := by rw [Nat.mul_comm 2 a, Nat.mul_assoc, Nat.mul_comm 2]
    omega
theorem val_lt (l : List Bool) : val 0 l < 2 ^ l.length := by
  induction l with
  | nil => simp [val]
  | cons b l ih =>
    simp only [val, List.length_cons]
    rw [val_eq, Nat.pow_succ]
    have : b.toNat ≤ 1 := by cases b <;> decide
    have h2 : (2 * 0 + b.toNat) * 2 ^ l.length ≤ 1 * 2 ^ l.length := Nat.mul_le_mul (by omega) (Nat.le_refl _)
    omega
theorem val_numBits (v n : Nat) : val 0 (numBits v n) = v % 2 ^ n := by
  induction n with
  | zero => simp [numBits, val, Nat.mod_one]
  | succ n ih =>
    simp only [numBits, val]
    rw [val_eq, ih, numBits_length, testBit_nat]
    have h := Nat.mod_pow_succ (b := 2) (x := v) (k := n)
    rw [h, Nat.mul_zero, Nat.zero_add, Nat.mul_comm (v / 2 ^ n % 2), Nat.add_comm]
/-- What a writer does with a number: its bits, and how it answers. -/
def putBad (v : Nat) (n : Int) : Bool := decide (n < 0) || decide (n > 64) || decide (v / 2 ^ n.toNat ≠ 0)
def putCode (k : Nat) (v : Nat) (n : Int) : Int := if putBad v n = true then 1 else if n > 65536 - (k : Int) then 5 else 0
def putBits (bs : List Bool) (v : Nat) (n : Int) : List Bool := if putCode bs.length v n = 0 then bs ++ numBits v n.toNat else bs
theorem putCode_ok {k v : Nat} {n : Int} (h : putCode k v n = 0) : 0 ≤ n ∧ n ≤ 64 ∧ v / 2 ^ n.toNat = 0 ∧ n ≤ 65536 - (k : Int) := by
  unfold putCode at h
  by_cases hb : putBad v n = true
  · rw [if_pos hb] at h; cases h
  · rw [if_neg hb] at h
    split at h
    · cases h
    · simp [putBad] at hb; refine ⟨by omega, by omega, by simpa using hb.2, by omega⟩

theorem putBits_no {bs : List Bool} {v : Nat} {n : Int} (h : putCode bs.length v n ≠ 0) : putBits bs v n = bs := if_neg h
theorem putBits_ok {bs : List Bool} {v : Nat} {n : Int} (h : putCode bs.length v n = 0) : putBits bs v n = bs ++ numBits v n.toNat := if_pos h
/-- The bits of bytes. -/
def byteBits (x : UInt8) : List Bool := numBits x.toNat 8
def unpack (l : List UInt8) : List Bool := l.flatMap byteBits
theorem byteBits_length (x : UInt8) : (byteBits x).length = 8 := numBits_length _ _
theorem unpack_length (l : List UInt8) : (unpack l).length = 8 * l.length := by
  induction l with
  | nil => rfl
  | cons x l ih => unfold unpack at *; rw [List.flatMap_cons, List.length_append, ih, byteBits_length, List.length_cons]; omega
theorem unpack_cons (x : UInt8) (l : List UInt8) : unpack (x :: l) = byteBits x ++ unpack l := rfl
theorem unpack_append (a b : List UInt8) : unpack (a ++ b) = unpack a ++ unpack b := by unfold unpack; exact List.flatMap_append
theorem bits_byte8 : ∀ a b c d e f g h : Bool, byteBits (byte8 a b c d e f g h) = [a, b, c, d, e, f, g, h] := by decide +kernel

theorem bitD_get {l : List Bool} {i : Nat} (h : i < l.length) : bitD l i = l[i] := by unfold bitD; rw [List.getElem?_eq_getElem h]; rfl
theorem bitD_append_right {a b : List Bool} {i : Nat} (h : a.length ≤ i) : bitD (a ++ b) i = bitD b (i - a.length) := by unfold bitD; rw [List.getElem?_append_right h]
theorem byteAt_shift (a : List Bool) (h : a.length = 8) (l : List Bool) (i : Nat) : byteAt (a ++ l) (i + 1) = byteAt l i := by
  have key : ∀ j, bitD (a ++ l) (8 * (i + 1) + j) = bitD l (8 * i + j) := by
    intro j
    rw [bitD_append_right (by omega), h]
    congr 1; omega
  have k0 := key 0
  simp only [Nat.add_zero] at k0
  unfold byteAt
  rw [k0, key 1, key 2, key 3, key 4, key 5, key 6, key 7]
theorem pack_cons (a : List Bool) (h : a.length = 8) (l : List Bool) : pack (a ++ l) = byteAt (a ++ l) 0 :: pack l := by
  unfold pack
  rw [List.length_append, h, show (8 + l.length + 7) / 8 = (l.length + 7) / 8 + 1 by omega, List.range_succ_eq_map, List.map_cons, List.map_map]
  congr 1
  apply List.map_congr_left
  intro i _
  exact byteAt_shift a h l i
theorem first_byte (l : List Bool) : byteBits (byteAt l 0) = l.take 8 ++ List.replicate (8 - l.length) false := by
  unfold byteAt
  rw [bits_byte8]
  match l with
  | [] => rfl
  | [_] => rfl
  | [_, _] => rfl
  | [_, _, _] => rfl
  | [_, _, _, _] => rfl
  | [_, _, _, _, _] => rfl
  | [_, _, _, _, _, _] => rfl
  | [_, _, _, _, _, _, _] => rfl
  | a :: b :: c :: d :: e :: f :: g :: h :: t =>
    rw [show 8 - (a :: b :: c :: d :: e :: f :: g :: h :: t).length = 0 by simp]
    rfl
/-- Bits, filled up to whole bytes. -/
theorem unpack_pack (l : List Bool) : unpack (pack l) = l ++ List.replicate (8 * ((l.length + 7) / 8) - l.length) false := by
  have H : ∀ n, ∀ l : List Bool, l.length = n → unpack (pack l) = l ++ List.replicate (8 * ((l.length + 7) / 8) - l.length) false := by
    intro n
    induction n using Nat.strongRecOn with
    | _ n ih =>
      intro l hl
      by_cases h0 : l = []
      · subst h0; rfl
      · have h1 : 0 < l.length := List.length_pos_iff.2 h0
        by_cases h8 : 8 ≤ l.length
        · have e : l = l.take 8 ++ l.drop 8 := (List.take_append_drop 8 l).symm
          have hp : pack l = byteAt l 0 :: pack (l.drop 8) := by
            have := pack_cons (l.take 8) (by rw [List.length_take]; omega) (l.drop 8)
            rw [← e] at this; exact this
          rw [hp, unpack_cons, first_byte, ih (n - 8) (by omega) (l.drop 8) (by rw [List.length_drop]; omega), List.length_drop, show 8 - l.length = 0 by omega]
          rw [List.replicate_zero, List.append_nil, ← List.append_assoc, List.take_append_drop]
          congr 2
          omega
        · have hp : pack l = [byteAt l 0] := by
            unfold pack
            rw [show (l.length + 7) / 8 = 1 by omega]; rfl
          rw [hp, unpack_cons, first_byte, List.take_of_length_le (by omega)]
          unfold unpack
          rw [List.flatMap_nil, List.append_nil]
          congr 2
          omega
  exact H _ l rfl

/-- What a reader answers. -/
def getCode (len k : Nat) (n : Int) : Int := if n < 0 ∨ n > 64 then 1 else if n > (len : Int) - k then 8 else 0
def getVal (l : List Bool) (k : Nat) (n : Int) : Nat := if getCode l.length k n = 0 then val 0 ((l.drop k).take n.toNat) else 0
def getAt (len k : Nat) (n : Int) : Nat := if getCode len k n = 0 then k + n.toNat else k
theorem getCode_ok {len k : Nat} {n : Int} (h : getCode len k n = 0) : 0 ≤ n ∧ n ≤ 64 ∧ n ≤ (len : Int) - k := by
  unfold getCode at h
  split at h
  · cases h
  · split at h
    · cases h
    · omega
theorem unpack_get : ∀ (l : List UInt8) (i : Nat) (x : UInt8), l[i / 8]? = some x → (unpack l)[i]? = some (x.toNat.testBit (7 - i % 8))
  | [], i, x, h => by simp at h
  | y :: l, i, x, h => by
    rw [unpack_cons]
    by_cases h8 : i < 8
    · rw [List.getElem?_append_left (by rw [byteBits_length]; exact h8)]
      rw [show i / 8 = 0 by omega] at h
      simp at h; subst h
      unfold byteBits
      match i, h8 with
      | 0, _ => rfl
      | 1, _ => rfl
      | 2, _ => rfl
      | 3, _ => rfl
      | 4, _ => rfl
      | 5, _ => rfl
      | 6, _ => rfl
      | 7, _ => rfl
    · rw [List.getElem?_append_right (by rw [byteBits_length]; omega), byteBits_length]
      have e1 : i / 8 = (i - 8) / 8 + 1 := by omega
      rw [e1, List.getElem?_cons_succ] at h
      rw [unpack_get l (i - 8) x h, show (i - 8) % 8 = i % 8 by omega]

theorem val_zero (l : List Bool) : val 0 l = 0 ↔ ∀ b ∈ l, b = false := by
  induction l with
  | nil => simp [val]
  | cons b l ih =>
    simp only [val]
    rw [val_eq]
    cases b with
    | false => simp [ih]
    | true =>
      have : 0 < 2 ^ l.length := Nat.pos_of_ne_zero (by simp)
      simp
theorem val_snoc (a : Nat) (l : List Bool) (b : Bool) : val a (l ++ [b]) = 2 * val a l + b.toNat := by rw [val_append]; rfl
/-- How many bits are put aside up to the next whole byte. -/
def pad (k : Nat) : Nat := (8 - k % 8) % 8
/-- What is left, in whole bytes. -/
def restOk (l : List Bool) (k : Nat) : Bool := decide (val 0 ((l.drop k).take (pad k)) = 0)
end Go.Proofs.Ytgbpjbpdpgbngaa
/-
  What a writer does.
-/
namespace Go.Proofs.Ytgbpjbpdpgbngaa
open Go Go.Am

/-- A copy of a row that goes on being stored into. -/
theorem CloneV (r : Nat) (bs : List UInt8) (σ : AHeap) (hs : σ r = some (.cells (bs.map byteV))) (hl : bs.length ≤ 140737488355328) : ACalls Try.prog i_slices_Clone_byte_byte [.ms r 1 0 bs.length] σ fun v σ' => ∃ tk, Owned σ σ' tk ∧ v = sl tk bs := by
  refine k_slices_Clone_byte_byte rfl ?_
  (refine wX ?_)
  refine ⟨⟨_, hs, by simp, ?_⟩⟩
  rw [List.drop_zero, List.take_of_length_le (by simp)]
  refine aapp_full (by simp; omega) fun t' ht' => ?_
  (refine wX ?_)
  exact aret_same ⟨_, .tip ht', rfl⟩

theorem wNew (σ : AHeap) : ACalls Try.prog i_bits_New [] σ fun v σ' => ∃ id, v = .ptr id 0 ∧ Wr σ' id [] σ := by
  refine k_bits_New rfl ?_
  (refine wX ?_)
  refine anew rfl fun id hid => ?_
  (refine wX ?_)
  exact aret_same ⟨id, rfl, hid, .inl ⟨rfl, rfl⟩⟩

theorem wBytesO (id : Nat) (bs : List Bool) (σ σb : AHeap) (h : Wr σ id bs σb) (hl : bs.length ≤ 70000) : ACalls Try.prog i_bits_Writer_Bytes [.ptr id 0] σ fun v σ' => ∃ tk, Owned σ σ' tk ∧ v = sl tk (pack bs) := by
  refine k_bits_Writer_Bytes rfl ?_
  have hpl := pack_length bs
  obtain ⟨hid, h⟩ := h
  rcases h with ⟨hnil, rfl⟩ | ⟨hne, r, hri, hr, rfl⟩
  · (refine wX ?_)
    (repeat ((refine aload (by (repeat (first | with_reducible exact upd_same _ _ _ | assumption | rw [upd_ne _ _ (by first | assumption | (apply Ne.symm; assumption))]))) rfl ?_); (refine wX ?_)))
    refine acall (Clone [] _ _ (by simp)) ?_
    rintro v σ' ⟨tk, ho, rfl⟩
    refine ⟨?_, ho.ext⟩
    (refine wX ?_)
    exact aret_same ⟨tk, ho, by rw [hnil]; rfl⟩
  · (refine wX ?_)
    (repeat ((refine aload (by (repeat (first | with_reducible exact upd_same _ _ _ | assumption | rw [upd_ne _ _ (by first | assumption | (apply Ne.symm; assumption))]))) rfl ?_); (refine wX ?_)))
    refine acall (CloneV r (pack bs) _ (by (repeat (first | with_reducible exact upd_same _ _ _ | assumption | rw [upd_ne _ _ (by first | assumption | (apply Ne.symm; assumption))]))) (by omega)) ?_
    rintro v σ' ⟨tk, ho, rfl⟩
    refine ⟨?_, ho.ext⟩
    (refine wX ?_)
    exact aret_same ⟨tk, ho, rfl⟩
theorem wBytes (id : Nat) (bs : List Bool) (σ σb : AHeap) (h : Wr σ id bs σb) (hl : bs.length ≤ 70000) : ACalls Try.prog i_bits_Writer_Bytes [.ptr id 0] σ fun v σ' => v = sl .none (pack bs) ∧ σ' = σ := by
  refine acall_less (wBytesO id bs σ σb h hl) ?_
  rintro v σ' ⟨tk, ho, rfl⟩
  exact ⟨_, _, VLe.slice _ _ _, ho.sub, rfl, rfl⟩
end Go.Proofs.Ytgbpjbpdpgbngaa
/-
  A writer's number put.
-/
namespace Go.Proofs.Ytgbpjbpdpgbngaa
open Go Go.Am

theorem Wr.cell {σ σb : AHeap} {id : Nat} {bs : List Bool} (h : Wr σ id bs σb) : ∃ c, σ id = some (.cells [c, i64v bs.length]) := by
  obtain ⟨hid, h⟩ := h
  rcases h with ⟨hnil, rfl⟩ | ⟨hne, r, hri, hr, rfl⟩
  · exact ⟨_, upd_same _ _ _⟩
  · exact ⟨_, upd_same _ _ _⟩

theorem bit_u8 (v i : Nat) : IntKind.u8.wrap ((v / 2 ^ i % 2 : Nat) : Int) = ((v.testBit i).toNat : Int) := by
  rw [testBit_nat]; exact wrap_u8 (by omega) (by omega)
theorem and1_u64 (x : Nat) (hx : x < 18446744073709551616) : bitsOp .and .u64 (x : Int) 1 = ((x % 2 : Nat) : Int) := by
  have h1 : BitVec.ofInt 64 (x : Int) = BitVec.ofNat 64 x := by simp
  show IntKind.u64.wrap ((BitVec.ofInt 64 (x : Int) &&& BitVec.ofInt 64 1).toNat) = _
  rw [h1]
  have : (BitVec.ofNat 64 x &&& BitVec.ofInt 64 1).toNat = x % 2 := by
    rw [BitVec.toNat_and, BitVec.toNat_ofNat, Nat.mod_eq_of_lt hx]
    exact Nat.and_one_is_mod x
  rw [this]; exact wrap_u64 (by omega) (by omega)

theorem putCode_bad {k v : Nat} {n : Int} (h : putBad v n = true) : putCode k v n = 1 := if_pos h
theorem putBits_bad {bs : List Bool} {v : Nat} {n : Int} (h : putBad v n = true) : putBits bs v n = bs := putBits_no (by rw [putCode_bad h]; decide)
theorem putCode_full {k v : Nat} {n : Int} (h : putBad v n = false) (hn : n > 65536 - (k : Int)) : putCode k v n = 5 := by unfold putCode; rw [h]; simp; omega
theorem putCode_fine {k v : Nat} {n : Int} (h : putBad v n = false) (hn : ¬ n > 65536 - (k : Int)) : putCode k v n = 0 := by unfold putCode; rw [h]; simp; omega

set_option maxRecDepth 10000 in
theorem wPut (id : Nat) (bs : List Bool) (v : Nat) (n : Int) (σ σb : AHeap) (h : Wr σ id bs σb) (hv : v < 18446744073709551616) (hl : bs.length ≤ 65536) :
    ACalls Try.prog i_bits_Writer_Put [.ptr id 0, u64v v, i64v n] σ fun x σ' => x = i64v (putCode bs.length v n) ∧ Wr σ' id (putBits bs v n) σb := by
  obtain ⟨c, hcell⟩ := h.cell
  refine k_bits_Writer_Put rfl ?_
  (refine wX ?_)
  refine ascope' (α := Nat × List Bool × AHeap) (fun x => [(s7, i64v x.1)]) (fun x => x.2.2) (fun _ => 0) (fun x => putCode bs.length v n = 0 ∧ Wr x.2.2 id (bs ++ x.2.1) σb ∧ x.2.1 ++ numBits v x.1 = numBits v n.toNat) (fun x => x.1) ?_ ?_
  · (refine wX ?_)
    intro hlab
    have fin (hp : putBad v n = false) (hle : n ≤ 64) (h0 : 0 ≤ n) (hroom : ¬ n > 65536 - (bs.length : Int)) : putCode bs.length v n = 0 ∧ Wr σ id (bs ++ []) σb ∧ [] ++ numBits v n.toNat = numBits v n.toNat := by
      refine ⟨putCode_fine hp hroom, ?_, rfl⟩
      rw [List.append_nil]; exact h
    by_cases h1 : n < 0
    · have hp : putBad v n = true := by simp [putBad, h1]
      (refine wX ?_)
      (repeat ((refine abr_yes (by omega) ?_); (refine wX ?_)))
      exact aret_same ⟨by rw [putCode_bad hp], by rw [putBits_bad hp]; exact h⟩
    · by_cases h2 : n > 64
      · have hp : putBad v n = true := by simp [putBad, h2]
        (refine wX ?_)
        (repeat ((first | refine abr_yes (by omega) ?_ | refine abr_no (by omega) ?_); (refine wX ?_)))
        exact aret_same ⟨by rw [putCode_bad hp], by rw [putBits_bad hp]; exact h⟩
      · obtain ⟨k, rfl⟩ : ∃ k : Nat, n = k := ⟨n.toNat, by omega⟩
        by_cases h3 : k = 64
        · have hp : putBad v ((k : Nat) : Int) = false := by
            unfold putBad
            rw [decide_eq_false h1, decide_eq_false h2, decide_eq_false (by subst h3; simp; omega)]; rfl
          by_cases h4 : (k : Int) > 65536 - (bs.length : Int)
          · (refine wX ?_)
            (repeat ((first | refine aload (by (repeat (first | with_reducible exact upd_same _ _ _ | assumption | rw [upd_ne _ _ (by first | assumption | (apply Ne.symm; assumption))]))) rfl ?_ | refine afit_i64 (by omega) ?_ | refine abr_yes (by omega) ?_ | refine abr_no (by omega) ?_); (refine wX ?_)))
            exact aret_same ⟨by rw [putCode_full hp h4], by rw [putBits_no (by rw [putCode_full hp h4]; decide)]; exact h⟩
          · (refine wX ?_)
            (repeat ((first | refine aload (by (repeat (first | with_reducible exact upd_same _ _ _ | assumption | rw [upd_ne _ _ (by first | assumption | (apply Ne.symm; assumption))]))) rfl ?_ | refine afit_i64 (by omega) ?_ | refine abr_no (by omega) ?_); (refine wX ?_)))
            refine hlab _ (fun _ _ _ h => h) _ _ _ _ ⟨(k, [], σ), rfl, fin hp (by omega) (by omega) h4, rfl, Sub.refl _, ?_⟩
            (refine wX ?_)
            exact elX
        · by_cases h5 : v / 2 ^ k = 0
          · have hp : putBad v ((k : Nat) : Int) = false := by
              unfold putBad
              rw [decide_eq_false h1, decide_eq_false h2, decide_eq_false (by simpa using h5)]; rfl
            by_cases h4 : (k : Int) > 65536 - (bs.length : Int)
            · (refine wX ?_)
              (repeat ((first | refine abr_yes (by omega) ?_ | refine abr_no (by omega) ?_); (refine wX ?_)))
              refine ashr_nat (by show k ≤ 64; omega) ?_
              (refine wX ?_)
              (repeat ((first | refine aload (by (repeat (first | with_reducible exact upd_same _ _ _ | assumption | rw [upd_ne _ _ (by first | assumption | (apply Ne.symm; assumption))]))) rfl ?_ | refine afit_i64 (by omega) ?_ | refine abr_yes (by omega) ?_ | refine abr_no (by omega) ?_); (refine wX ?_)))
              exact aret_same ⟨by rw [putCode_full hp h4], by rw [putBits_no (by rw [putCode_full hp h4]; decide)]; exact h⟩
            · (refine wX ?_)
              (repeat ((first | refine abr_yes (by omega) ?_ | refine abr_no (by omega) ?_); (refine wX ?_)))
              refine ashr_nat (by show k ≤ 64; omega) ?_
              (refine wX ?_)
              (repeat ((first | refine aload (by (repeat (first | with_reducible exact upd_same _ _ _ | assumption | rw [upd_ne _ _ (by first | assumption | (apply Ne.symm; assumption))]))) rfl ?_ | refine afit_i64 (by omega) ?_ | refine abr_no (by omega) ?_); (refine wX ?_)))
              refine hlab _ (fun _ _ _ h => h) _ _ _ _ ⟨(k, [], σ), rfl, fin hp (by omega) (by omega) h4, rfl, Sub.refl _, ?_⟩
              (refine wX ?_)
              exact elX
          · have hp : putBad v ((k : Nat) : Int) = true := by
              unfold putBad
              rw [decide_eq_true (show v / 2 ^ (Int.toNat (k : Int)) ≠ 0 from h5)]; simp
            (refine wX ?_)
            (repeat ((first | refine abr_yes (by omega) ?_ | refine abr_no (by omega) ?_); (refine wX ?_)))
            refine ashr_nat (by show k ≤ 64; omega) ?_
            (refine wX ?_)
            (repeat ((refine abr_yes (by omega) ?_); (refine wX ?_)))
            exact aret_same ⟨by rw [putCode_bad hp], by rw [putBits_bad hp]; exact h⟩
  · rintro ⟨i, d, σ1⟩ ⟨h1, h2, h3⟩
    refine ⟨_, rfl, ?_⟩
    (refine wX ?_)
    intro hlab
    simp only at h1 h2 h3
    obtain ⟨p1, p2, p3, p4⟩ := putCode_ok h1
    have hlen : d.length + i = n.toNat := by
      have := congrArg List.length h3
      rw [List.length_append, numBits_length, numBits_length] at this; exact this
    cases i with
    | zero =>
      (refine wX ?_)
      (repeat ((refine abr_no (by omega) ?_); (refine wX ?_)))
      refine aret_same ⟨by rw [h1], ?_⟩
      rw [putBits_ok h1, ← h3]
      simpa [numBits] using h2
    | succ i =>
      (refine wX ?_)
      (repeat ((first | refine afit_i64 (by omega) ?_ | refine abr_yes (by omega) ?_); (refine wX ?_)))
      rw [show ((i + 1 : Nat) : Int) - 1 = (i : Int) by omega]
      (refine wX ?_)
      refine ashr_nat (by show i ≤ 64; omega) ?_
      (refine wX ?_)
      refine abits_eq (and1_u64 _ (Nat.lt_of_le_of_lt (Nat.div_le_self _ _) hv)) ?_
      (refine wX ?_)
      refine afit_eq (bit_u8 v i) ?_
      (refine wX ?_)
      refine acall (one id (bs ++ d) (v.testBit i) _ σb h2 (by rw [List.length_append]; omega)) ?_
      rintro x σ' ⟨rfl, hw⟩
      (refine wX ?_)
      refine ⟨(i, d ++ [v.testBit i], σ'), rfl, ⟨h1, ?_, ?_⟩, by simp only; omega, Sub.refl _, ?_⟩
      · simp only; rw [← List.append_assoc]; exact hw
      · simp only; rw [← h3]; simp [numBits]
      · (refine wX ?_)
        exact elX
end Go.Proofs.Ytgbpjbpdpgbngaa
/-
  What a reader does.
-/
namespace Go.Proofs.Ytgbpjbpdpgbngaa
open Go Go.Am

/-- A reader at an object, with its bytes and its place; the heap without it. -/
def Rd (σ : AHeap) (id : Nat) (b : List UInt8) (k : Nat) (σb : AHeap) : Prop :=
  σb id = none ∧ k ≤ 8 * b.length ∧ b.length ≤ 8192 ∧ ∃ tk, σ = upd σb id (.cells [sl tk b, i64v k])

theorem rRead (b : List UInt8) (t : Tok) (σ : AHeap) (hl : b.length ≤ 140737488355328) : ACalls Try.prog i_bits_Read [sl t b] σ fun v σ' => ∃ id, v = .ptr id 0 ∧ Rd σ' id (b.take 8192) 0 σ := by
  refine k_bits_Read rfl ?_
  (refine wX ?_)
  try rw [List.length_map]
  (repeat ((first | refine amin ?_ | rw [List.length_map]); (refine wX ?_)))
  refine acut (by omega) (by omega) (by omega) ?_
  (refine wX ?_)
  refine ⟨rfl, rfl, ?_⟩
  (refine wX ?_)
  rw [show (min (b.length : Int) 8192).toNat = min b.length 8192 by omega, ← List.map_take]
  have e : b.take (min b.length 8192) = b.take 8192 := by
    by_cases h : b.length ≤ 8192
    · rw [Nat.min_eq_left h, List.take_of_length_le (Nat.le_refl _), List.take_of_length_le h]
    · rw [Nat.min_eq_right (by omega)]
  rw [e]
  refine acall (Clone (b.take 8192) _ _ (by rw [List.length_take]; omega)) ?_
  rintro v σ' ⟨tk, ho, rfl⟩
  refine ⟨?_, ho.ext⟩
  (refine wX ?_)
  refine anew rfl fun id hid => ?_
  (refine wX ?_)
  have hσ : σ id = none := by
    rcases ho with ⟨_, rfl⟩ | ⟨t', h0, _, rfl⟩
    · exact hid
    · by_cases e : id = t'
      · subst e; rw [upd_same] at hid; cases hid
      · rw [upd_ne _ _ e] at hid; exact hid
  refine aret (VLe.refl _) (σ' := upd σ id (.cells [sl tk (b.take 8192), i64v 0])) ?_ ⟨id, rfl, hσ, by omega, by rw [List.length_take]; omega, tk, rfl⟩
  exact Sub.upd ho.sub id _

theorem rLeft (id : Nat) (b : List UInt8) (k : Nat) (σ σb : AHeap) (h : Rd σ id b k σb) : ACalls Try.prog i_bits_Reader_Left [.ptr id 0] σ fun v σ' => v = i64v ((8 * b.length - k : Nat) : Int) ∧ σ' = σ := by
  refine k_bits_Reader_Left rfl ?_
  obtain ⟨hid, hk, hb, tk, rfl⟩ := h
  (refine wX ?_)
  (repeat ((first | refine aload (by (repeat (first | with_reducible exact upd_same _ _ _ | assumption | rw [upd_ne _ _ (by first | assumption | (apply Ne.symm; assumption))]))) rfl ?_ | refine afit_i64 (by omega) ?_ | rw [List.length_map]); (refine wX ?_)))
  try rw [List.length_map]
  skip
  refine aret_same ⟨?_, rfl⟩
  rw [show ((8 * b.length - k : Nat) : Int) = (b.length : Int) * 8 - k by omega]
theorem and1_u8 (x : Nat) (hx : x < 256) : bitsOp .and .u8 (x : Int) 1 = ((x % 2 : Nat) : Int) := by
  have h1 : BitVec.ofInt 8 (x : Int) = BitVec.ofNat 8 x := by simp
  show IntKind.u8.wrap ((BitVec.ofInt 8 (x : Int) &&& BitVec.ofInt 8 1).toNat) = _
  rw [h1]
  have : (BitVec.ofNat 8 x &&& BitVec.ofInt 8 1).toNat = x % 2 := by
    rw [BitVec.toNat_and, BitVec.toNat_ofNat, Nat.mod_eq_of_lt hx]
    exact Nat.and_one_is_mod x
  rw [this]; exact wrap_u8 (by omega) (by omega)
theorem or1_u64 (x : Nat) (b : Bool) (hx : 2 * x < 18446744073709551616) : bitsOp .or .u64 ((2 * x : Nat) : Int) ((b.toNat : Nat) : Int) = ((2 * x + b.toNat : Nat) : Int) := by
  have h1 : ∀ y : Nat, BitVec.ofInt 64 (y : Int) = BitVec.ofNat 64 y := by intro y; simp
  show IntKind.u64.wrap ((BitVec.ofInt 64 ((2 * x : Nat) : Int) ||| BitVec.ofInt 64 ((b.toNat : Nat) : Int)).toNat) = _
  rw [h1, h1]
  have hb : b.toNat ≤ 1 := by cases b <;> decide
  have : (BitVec.ofNat 64 (2 * x) ||| BitVec.ofNat 64 b.toNat).toNat = 2 * x + b.toNat := by
    rw [BitVec.toNat_or, BitVec.toNat_ofNat, BitVec.toNat_ofNat, Nat.mod_eq_of_lt hx, Nat.mod_eq_of_lt (by omega)]
    have e := Nat.two_pow_add_eq_or_of_lt (i := 1) (b := b.toNat) (by omega) x
    rw [Nat.pow_one] at e
    exact e.symm
  rw [this]; exact wrap_u64 (by omega) (by omega)
theorem shl1_u64 (x : Nat) (hx : 2 * x < 18446744073709551616) : IntKind.u64.wrap ((x : Int) * 2 ^ (min (1 : Int).toNat IntKind.u64.bits)) = ((2 * x : Nat) : Int) := by
  have e : (x : Int) * 2 ^ (min (1 : Int).toNat IntKind.u64.bits) = ((2 * x : Nat) : Int) := by
    show (x : Int) * 2 ^ 1 = _
    omega
  rw [e]; exact wrap_u64 (by omega) (by omega)
theorem take_snoc {α : Type} {l : List α} {i : Nat} {x : α} (h : l[i]? = some x) : l.take (i + 1) = l.take i ++ [x] := by rw [List.take_add_one, h]; rfl

set_option maxRecDepth 10000 in
theorem rGet (id : Nat) (b : List UInt8) (k : Nat) (n : Int) (σ σb : AHeap) (h : Rd σ id b k σb) :
    ACalls Try.prog i_bits_Reader_Get [.ptr id 0, i64v n] σ fun x σ' => x = .tup [u64v (getVal (unpack b) k n), i64v (getCode (8 * b.length) k n)] ∧ Rd σ' id b (getAt (8 * b.length) k n) σb := by
  have hR := h
  obtain ⟨hid, hk, hb, tk, rfl⟩ := h
  have hul := unpack_length b
  refine k_bits_Reader_Get rfl ?_
  (refine wX ?_)
  refine ascope' (α := Nat) (fun j => [(s6, u64v (val 0 (((unpack b).drop k).take j))), (s7, i64v ((k : Int) + n))]) (fun j => upd σb id (.cells [sl tk b, i64v ((k + j : Nat) : Int)])) (fun _ => 0) (fun j => getCode (8 * b.length) k n = 0 ∧ j ≤ n.toNat) (fun j => n.toNat - j) ?_ ?_
  · (refine wX ?_)
    intro hlab
    by_cases h1 : n < 0
    · have hc : getCode (8 * b.length) k n = 1 := by unfold getCode; rw [if_pos (.inl h1)]
      (refine wX ?_)
      (repeat ((refine abr_yes (by omega) ?_); (refine wX ?_)))
      refine aret_same ⟨?_, ?_⟩
      · unfold getVal; rw [hul, hc]; rfl
      · unfold getAt; rw [hc]; exact hR
    · by_cases h2 : n > 64
      · have hc : getCode (8 * b.length) k n = 1 := by unfold getCode; rw [if_pos (.inr h2)]
        (refine wX ?_)
        (repeat ((first | refine abr_yes (by omega) ?_ | refine abr_no (by omega) ?_); (refine wX ?_)))
        refine aret_same ⟨?_, ?_⟩
        · unfold getVal; rw [hul, hc]; rfl
        · unfold getAt; rw [hc]; exact hR
      · (refine wX ?_)
        (repeat ((refine abr_no (by omega) ?_); (refine wX ?_)))
        refine acall (rLeft id b k _ σb hR) ?_
        rintro x σ' ⟨rfl, rfl⟩
        refine ⟨?_, Ext.refl _⟩
        by_cases h3 : n > ((8 * b.length - k : Nat) : Int)
        · have hc : getCode (8 * b.length) k n = 8 := by unfold getCode; rw [if_neg (by omega), if_pos (by omega)]
          (refine wX ?_)
          (repeat ((refine abr_yes (by omega) ?_); (refine wX ?_)))
          refine aret_same ⟨?_, ?_⟩
          · unfold getVal; rw [hul, hc]; rfl
          · unfold getAt; rw [hc]; exact hR
        · have hc : getCode (8 * b.length) k n = 0 := by unfold getCode; rw [if_neg (by omega), if_neg (by omega)]
          (refine wX ?_)
          (repeat ((first | refine aload (by (repeat (first | with_reducible exact upd_same _ _ _ | assumption | rw [upd_ne _ _ (by first | assumption | (apply Ne.symm; assumption))]))) rfl ?_ | refine afit_i64 (by omega) ?_ | refine abr_no (by omega) ?_); (refine wX ?_)))
          refine hlab _ (fun _ _ _ h => h) _ _ _ _ ⟨0, rfl, ⟨hc, by omega⟩, rfl, Sub.refl _, ?_⟩
          (refine wX ?_)
          exact elX
  · rintro j ⟨hc, hj⟩
    obtain ⟨p1, p2, p3⟩ := getCode_ok hc
    refine ⟨_, rfl, ?_⟩
    (refine wX ?_)
    intro hlab
    by_cases h1 : j = n.toNat
    · (refine wX ?_)
      (repeat ((first | refine aload (by (repeat (first | with_reducible exact upd_same _ _ _ | assumption | rw [upd_ne _ _ (by first | assumption | (apply Ne.symm; assumption))]))) rfl ?_ | refine abr_no (by omega) ?_); (refine wX ?_)))
      refine aret_same ⟨?_, ?_⟩
      · unfold getVal; rw [hul, if_pos hc, hc, h1]
      · unfold getAt; rw [if_pos hc, ← h1]
        exact ⟨hid, by omega, hb, tk, rfl⟩
    · have hlt : k + j < 8 * b.length := by omega
      have hq : (k + j) / 8 < b.length := by omega
      have hg : b[(k + j) / 8]? = some b[(k + j) / 8] := List.getElem?_eq_getElem hq
      have hbit := unpack_get b (k + j) _ hg
      have hv2 : val 0 (((unpack b).drop k).take j) < 2 ^ 63 := by
        have h1 := val_lt (((unpack b).drop k).take j)
        have h2 : (((unpack b).drop k).take j).length ≤ 63 := by rw [List.length_take]; omega
        exact Nat.lt_of_lt_of_le h1 (Nat.pow_le_pow_right (by omega) h2)
      have hx := b[(k + j) / 8].toNat_lt
      (refine wX ?_)
      (repeat ((first | refine aload (by (repeat (first | with_reducible exact upd_same _ _ _ | assumption | rw [upd_ne _ _ (by first | assumption | (apply Ne.symm; assumption))]))) rfl ?_ | refine abr_yes (by omega) ?_); (refine wX ?_)))
      refine ashl_eq (by omega) (shl1_u64 _ (by omega)) ?_
      (refine wX ?_)
      (repeat ((first | refine aload (by (repeat (first | with_reducible exact upd_same _ _ _ | assumption | rw [upd_ne _ _ (by first | assumption | (apply Ne.symm; assumption))]))) rfl ?_ | refine adiv_i64 (by omega) (by omega) ?_); (refine wX ?_)))
      rw [show ((k + j : Nat) : Int) / 8 = (((k + j) / 8 : Nat) : Int) by omega]
      refine aget (by omega) (get_bytes hq) ?_
      (refine wX ?_)
      refine acell rfl ?_
      (refine wX ?_)
      (repeat ((first | refine aload (by (repeat (first | with_reducible exact upd_same _ _ _ | assumption | rw [upd_ne _ _ (by first | assumption | (apply Ne.symm; assumption))]))) rfl ?_ | refine afit_i64 (by omega) ?_ | refine arem_nonneg (by omega) (by omega) ?_); (refine wX ?_)))
      rw [show (7 : Int) - ((k + j : Nat) : Int) % 8 = ((7 - (k + j) % 8 : Nat) : Int) by omega]
      refine ashr_nat (by show _ ≤ 8; omega) ?_
      (refine wX ?_)
      refine abits_eq (and1_u8 _ (Nat.lt_of_le_of_lt (Nat.div_le_self _ _) hx)) ?_
      rw [← testBit_nat]
      (refine wX ?_)
      have hb1 : (b[(k + j) / 8].toNat.testBit (7 - (k + j) % 8)).toNat ≤ 1 := by cases b[(k + j) / 8].toNat.testBit (7 - (k + j) % 8) <;> decide
      refine afit_u64 (by omega) ?_
      (refine wX ?_)
      refine abits_eq (or1_u64 _ _ (by omega)) ?_
      (refine wX ?_)
      (repeat ((first | refine aload (by (repeat (first | with_reducible exact upd_same _ _ _ | assumption | rw [upd_ne _ _ (by first | assumption | (apply Ne.symm; assumption))]))) rfl ?_ | refine afit_i64 (by omega) ?_); (refine wX ?_)))
      refine astore (upd_same _ _ _) (Nat.le_of_ble_eq_true rfl) rfl rfl ?_
      rw [upd_upd]
      (refine wX ?_)
      refine ⟨j + 1, rfl, ⟨hc, by omega⟩, by omega, ?_, ?_⟩
      · rw [show (((k + j : Nat) : Int) + 1) = ((k + (j + 1) : Nat) : Int) by omega]
        exact Sub.refl _
      · have e : val 0 (((unpack b).drop k).take (j + 1)) = 2 * val 0 (((unpack b).drop k).take j) + (b[(k + j) / 8].toNat.testBit (7 - (k + j) % 8)).toNat := by
          rw [take_snoc (l := (unpack b).drop k) (i := j) (x := b[(k + j) / 8].toNat.testBit (7 - (k + j) % 8)) (by rw [List.getElem?_drop]; exact hbit), val_snoc]
        (refine wX ?_)
        rw [e]
        exact elX

theorem pad_le (k : Nat) : pad k ≤ 7 := by unfold pad; omega
set_option maxRecDepth 10000 in
theorem rRest (id : Nat) (b : List UInt8) (k : Nat) (σ σb : AHeap) (h : Rd σ id b k σb) :
    ACalls Try.prog i_bits_Reader_Rest [.ptr id 0] σ fun x σ' => x = .tup [sl .none (if restOk (unpack b) k then b.drop ((k + 7) / 8) else []), i64v (if restOk (unpack b) k then 0 else 3)] ∧
      Rd σ' id b (if restOk (unpack b) k then 8 * b.length else k) σb := by
  have hR := h
  obtain ⟨hid, hk, hb, tk, rfl⟩ := h
  have hul := unpack_length b
  have hp7 := pad_le k
  refine k_bits_Reader_Rest rfl ?_
  (refine wX ?_)
  (repeat ((first | refine aload (by (repeat (first | with_reducible exact upd_same _ _ _ | assumption | rw [upd_ne _ _ (by first | assumption | (apply Ne.symm; assumption))]))) rfl ?_ | refine afit_i64 (by omega) ?_ | refine arem_nonneg (by omega) (by omega) ?_); (refine wX ?_)))
  rw [show ((8 : Int) - (k : Int) % 8) % 8 = ((pad k : Nat) : Int) by unfold pad; omega]
  refine acall (rGet id b k (pad k) _ σb hR) ?_
  rintro x σ' ⟨rfl, hR2⟩
  have hc : getCode (8 * b.length) k (pad k) = 0 := by
    unfold getCode
    rw [if_neg (by omega), if_neg]
    have : k % 8 = 0 ∨ k + (8 - k % 8) ≤ 8 * b.length := by omega
    unfold pad
    omega
  have ha : getAt (8 * b.length) k (pad k) = k + pad k := by unfold getAt; rw [if_pos hc]; rfl
  have hv : getVal (unpack b) k (pad k) = val 0 (((unpack b).drop k).take (pad k)) := by unfold getVal; rw [hul, if_pos hc]; rfl
  rw [ha] at hR2
  rw [hc, hv]
  obtain ⟨hid2, hk2, hb2, tk2, rfl⟩ := hR2
  (refine wX ?_)
  by_cases hz : val 0 (((unpack b).drop k).take (pad k)) = 0
  · have hok : restOk (unpack b) k = true := decide_eq_true hz
    rw [hok]
    simp only [if_true]
    (repeat ((first | refine aload (by (repeat (first | with_reducible exact upd_same _ _ _ | assumption | rw [upd_ne _ _ (by first | assumption | (apply Ne.symm; assumption))]))) rfl ?_ | refine adiv_i64 (by omega) (by omega) ?_ | refine abr_no (by omega) ?_ | rw [List.length_map]); (refine wX ?_)))
    try rw [List.length_map]
    refine acut (by omega) (by omega) (by omega) ?_
    (refine wX ?_)
    rw [show (((k + pad k : Nat) : Int) / 8).toNat = (k + 7) / 8 by unfold pad; omega, show (b.length : Int).toNat = b.length by omega, List.take_of_length_le (by simp), ← List.map_drop]
    refine acall (Clone (b.drop ((k + 7) / 8)) _ _ (by rw [List.length_drop]; omega)) ?_
    rintro v σ' ⟨tk3, ho, rfl⟩
    refine ⟨?_, ho.ext⟩
    have hσ : σ' id = some (.cells [sl tk2 b, i64v ((k + pad k : Nat) : Int)]) := by
      rcases ho with ⟨_, rfl⟩ | ⟨t', h0, _, rfl⟩
      · exact upd_same _ _ _
      · by_cases e : id = t'
        · subst e; rw [upd_same] at h0; cases h0
        · rw [upd_ne _ _ e]; exact upd_same _ _ _
    (refine wX ?_)
    (repeat ((first | refine aload (by (repeat (first | with_reducible exact upd_same _ _ _ | assumption | rw [upd_ne _ _ (by first | assumption | (apply Ne.symm; assumption))]))) rfl ?_ | refine afit_i64 (by omega) ?_ | rw [List.length_map]); (refine wX ?_)))
    try rw [List.length_map]
    skip
    refine astore hσ (Nat.le_of_ble_eq_true rfl) rfl rfl ?_
    (refine wX ?_)
    refine aret VLe.tup_sl (σ' := upd σb id (.cells [sl tk2 b, i64v ((b.length : Int) * 8)])) ?_ ⟨rfl, hid, Nat.le_refl _, hb, tk2, ?_⟩
    · have := Sub.upd ho.sub id (.cells [sl tk2 b, i64v ((b.length : Int) * 8)])
      rw [upd_upd] at this
      exact this
    · rw [show (b.length : Int) * 8 = ((8 * b.length : Nat) : Int) by omega]
  · have hok : restOk (unpack b) k = false := decide_eq_false hz
    rw [hok]
    simp only [Bool.false_eq_true, if_false]
    (repeat ((refine abr_yes (by omega) ?_); (refine wX ?_)))
    refine astore (upd_same _ _ _) (Nat.le_of_ble_eq_true rfl) rfl rfl ?_
    rw [upd_upd]
    (refine wX ?_)
    exact aret VLe.tup_sl (Sub.refl _) ⟨rfl, hid, hk, hb, tk2, rfl⟩
end Go.Proofs.Ytgbpjbpdpgbngaa
/-
  Parts of the objects' heap that stand side by side.
-/
namespace Go.Proofs.Ytgbpjbpdpgbngaa
open Go Go.Am

def join (A σ : AHeap) : AHeap := fun j => match A j with | some o => some o | none => σ j
/-- A heap is another one, and a part of its own beside. -/
def Has (S : AHeap → Prop) (σ σb : AHeap) : Prop := ∃ A, S A ∧ (∀ j, A j ≠ none → σb j = none) ∧ σ = join A σb

theorem Has.sub {S : AHeap → Prop} {σ σb : AHeap} (h : Has S σ σb) : Sub σ σb := by
  obtain ⟨A, _, h2, rfl⟩ := h
  intro j o e
  unfold join
  cases hA : A j with
  | none => exact e
  | some x => rw [h2 j (by rw [hA]; nofun)] at e; cases e
theorem Has.swap {S T : AHeap → Prop} {σ2 σ1 σ0 : AHeap} (h : Has S σ2 σ1) (k : Has T σ1 σ0) : ∃ σ', Has T σ2 σ' ∧ Has S σ' σ0 := by
  obtain ⟨A, hS, hA, rfl⟩ := h
  obtain ⟨B, hT, hB, rfl⟩ := k
  have hAB : ∀ j, A j ≠ none → B j = none ∧ σ0 j = none := by
    intro j hj
    have := hA j hj
    unfold join at this
    cases hb : B j with
    | none => rw [hb] at this; exact ⟨rfl, this⟩
    | some x => rw [hb] at this; cases this
  refine ⟨join A σ0, ⟨B, hT, ?_, ?_⟩, A, hS, fun j hj => (hAB j hj).2, rfl⟩
  · intro j hj
    unfold join
    cases ha : A j with
    | none => exact hB j hj
    | some x => exact absurd (hAB j (by rw [ha]; nofun)).1 hj
  · funext j
    unfold join
    cases ha : A j with
    | none => rfl
    | some x => rw [(hAB j (by rw [ha]; nofun)).1]

theorem Has.ext {S : AHeap → Prop} {σ σb : AHeap} (h : Has S σ σb) : Ext σb σ := by
  obtain ⟨A, _, h2, rfl⟩ := h
  intro j o _ e
  unfold join
  cases hA : A j with
  | none => exact e
  | some x => rw [h2 j (by rw [hA]; nofun)] at e; cases e

theorem join_upd (A σ : AHeap) (id : Nat) (o : AObj) : join (upd A id o) σ = upd (join A σ) id o := by
  funext j
  unfold join
  by_cases e : j = id
  · subst e; rw [upd_same, upd_same]
  · rw [upd_ne _ _ e, upd_ne _ _ e]
theorem join_none (σ : AHeap) : join (fun _ => none) σ = σ := rfl

theorem Wr.has {σ σb : AHeap} {id : Nat} {bs : List Bool} : Wr σ id bs σb ↔ Has (fun A => Wr A id bs fun _ => none) σ σb := by
  constructor
  · rintro ⟨hid, ⟨hnil, rfl⟩ | ⟨hne, r, hri, hr, rfl⟩⟩
    · refine ⟨_, ⟨rfl, .inl ⟨hnil, rfl⟩⟩, ?_, ?_⟩
      · intro j hj
        by_cases e : j = id
        · subst e; exact hid
        · rw [upd_ne _ _ e] at hj; exact absurd rfl hj
      · rw [join_upd, join_none]
    · refine ⟨_, ⟨rfl, .inr ⟨hne, r, hri, rfl, rfl⟩⟩, ?_, ?_⟩
      · intro j hj
        by_cases e : j = id
        · subst e; exact hid
        · rw [upd_ne _ _ e] at hj
          by_cases e2 : j = r
          · subst e2; exact hr
          · rw [upd_ne _ _ e2] at hj; exact absurd rfl hj
      · rw [join_upd, join_upd, join_none]
  · rintro ⟨A, ⟨_, ⟨hnil, rfl⟩ | ⟨hne, r, hri, _, rfl⟩⟩, hd, rfl⟩
    · have hid := hd id (by rw [upd_same]; nofun)
      exact ⟨hid, .inl ⟨hnil, by rw [join_upd, join_none]⟩⟩
    · have hid := hd id (by rw [upd_same]; nofun)
      have hr := hd r (by rw [upd_ne _ _ hri, upd_same]; nofun)
      exact ⟨hid, .inr ⟨hne, r, hri, hr, by rw [join_upd, join_upd, join_none]⟩⟩
theorem Rd.has {σ σb : AHeap} {id : Nat} {b : List UInt8} {k : Nat} : Rd σ id b k σb ↔ Has (fun A => Rd A id b k fun _ => none) σ σb := by
  constructor
  · rintro ⟨hid, h1, h2, tk, rfl⟩
    refine ⟨_, ⟨rfl, h1, h2, tk, rfl⟩, ?_, ?_⟩
    · intro j hj
      by_cases e : j = id
      · subst e; exact hid
      · rw [upd_ne _ _ e] at hj; exact absurd rfl hj
    · rw [join_upd, join_none]
  · rintro ⟨A, ⟨_, h1, h2, tk, rfl⟩, hd, rfl⟩
    exact ⟨hd id (by rw [upd_same]; nofun), h1, h2, tk, by rw [join_upd, join_none]⟩
theorem Wr.sub {σ σb : AHeap} {id : Nat} {bs : List Bool} (h : Wr σ id bs σb) : Sub σ σb := (Wr.has.1 h).sub
theorem Rd.sub {σ σb : AHeap} {id : Nat} {b : List UInt8} {k : Nat} (h : Rd σ id b k σb) : Sub σ σb := (Rd.has.1 h).sub
theorem Wr.ext {σ σb : AHeap} {id : Nat} {bs : List Bool} (h : Wr σ id bs σb) : Ext σb σ := (Wr.has.1 h).ext
theorem Rd.ext {σ σb : AHeap} {id : Nat} {b : List UInt8} {k : Nat} (h : Rd σ id b k σb) : Ext σb σ := (Rd.has.1 h).ext
end Go.Proofs.Ytgbpjbpdpgbngaa
/-
  How long fields are: sizes, and what is written.
-/
namespace Go.Proofs.Ytgbpjbpdpgbngaa
open Go Go.Am

def badLen (W : Nat) (n : Int) : Bool := decide (n < 1 ∨ n ≥ ((2 ^ W : Nat) : Int))
/-- The bits of the first lengths. -/
def lenBits (l : List Int) (W : Nat) (i : Nat) : List Bool := (List.range i).flatMap fun j => decide (j + 1 < l.length) :: numBits ((l[j]?.getD 0).toNat) W
theorem lenBits_succ (l : List Int) (W i : Nat) : lenBits l W (i + 1) = lenBits l W i ++ (decide (i + 1 < l.length) :: numBits ((l[i]?.getD 0).toNat) W) := by
  unfold lenBits; rw [List.range_succ, List.flatMap_append]; simp
theorem lenBits_length (l : List Int) (W i : Nat) : (lenBits l W i).length = i * (W + 1) := by
  induction i with
  | zero => rw [Nat.zero_mul]; rfl
  | succ i ih => rw [lenBits_succ, List.length_append, ih, List.length_cons, numBits_length, Nat.succ_mul]
def writeCode (l : List Int) (w : Int) : Int := if widthOk w = false then 9 else if l.length = 0 then 4 else if l.length > 23 then 2 else if l.any (badLen w.toNat) = true then 1 else 0
def writeBytes (l : List Int) (w : Int) : List UInt8 := if writeCode l w = 0 then pack (lenBits l w.toNat l.length) else []

theorem shl1_i64 {W : Nat} (h : W = 11 ∨ W = 15) : IntKind.i64.wrap ((1 : Int) * 2 ^ (min ((W : Nat) : Int).toNat IntKind.i64.bits)) = ((2 ^ W : Nat) : Int) := by
  rcases h with rfl | rfl <;> decide
theorem put_bit (bs : List Bool) (b : Bool) (h : bs.length < 65536) : putCode bs.length b.toNat 1 = 0 ∧ putBits bs b.toNat 1 = bs ++ [b] := by
  have hc : putCode bs.length b.toNat 1 = 0 := putCode_fine (by cases b <;> decide) (by omega)
  refine ⟨hc, ?_⟩
  rw [putBits_ok hc]
  cases b <;> rfl
theorem put_num (bs : List Bool) (v W : Nat) (h : bs.length + W ≤ 65536) (hW : W ≤ 64) (hv : v < 2 ^ W) : putCode bs.length v W = 0 ∧ putBits bs v W = bs ++ numBits v W := by
  have hc : putCode bs.length v W = 0 := by
    refine putCode_fine ?_ (by omega)
    unfold putBad
    rw [decide_eq_false (by omega), decide_eq_false (by omega), decide_eq_false]
    · rfl
    · rw [Int.toNat_natCast]; exact fun h => h (Nat.div_eq_of_lt hv)
  exact ⟨hc, putBits_ok hc⟩

set_option maxRecDepth 10000 in
theorem lWrite (l : List Int) (t : Tok) (w : Int) (σ : AHeap) (hl : l.length ≤ 4611686018427387904) : ACalls Try.prog i_lens_Write [ints t l, i64v w] σ fun v σ' => v = .tup [sl .none (writeBytes l w), i64v (writeCode l w)] ∧ σ' = σ := by
  refine k_lens_Write rfl ?_
  (refine wX ?_)
  refine acall (lIsWidth w _) ?_
  rintro _ σ_ ⟨rfl, e_⟩
  obtain rfl := e_.symm
  refine ⟨?_, Ext.refl _⟩
  (refine wX ?_)
  by_cases hw : w = 11 ∨ w = 15
  · have hok := widthOk_iff.2 hw
    obtain ⟨W, rfl⟩ : ∃ W : Nat, w = W := ⟨w.toNat, by omega⟩
    have hW : W = 11 ∨ W = 15 := by omega
    have hp := shl1_i64 hW
    have hpw : 2 ^ W ≤ 32768 := by rcases hW with rfl | rfl <;> decide
    rw [hok]
    (refine wX ?_)
    by_cases h0 : l.length = 0
    · have hc : writeCode l ((W : Nat) : Int) = 4 := by unfold writeCode; rw [hok]; simp [h0]
      (repeat ((first | refine abr_yes (by omega) ?_ | rw [List.length_map]); (refine wX ?_)))
      exact aret VLe.tup_sl (Sub.refl _) ⟨by unfold writeBytes; rw [hc]; rfl, rfl⟩
    · by_cases h23 : l.length > 23
      · have hc : writeCode l ((W : Nat) : Int) = 2 := by unfold writeCode; rw [hok]; simp [h0, h23]
        (repeat ((first | refine abr_yes (by omega) ?_ | refine abr_no (by omega) ?_ | rw [List.length_map]); (refine wX ?_)))
        exact aret VLe.tup_sl (Sub.refl _) ⟨by unfold writeBytes; rw [hc]; rfl, rfl⟩
      · (repeat ((first | refine abr_no (by omega) ?_ | rw [List.length_map]); (refine wX ?_)))
        refine acall (wNew _) ?_
        rintro _ σ1 ⟨id, rfl, w1⟩
        refine ⟨?_, w1.ext⟩
        (refine wX ?_)
        try rw [List.length_map]
        refine aloop (α := Nat × AHeap) (fun x => [(s25, i64v x.1)]) (fun x => x.2) (fun x => x.1 ≤ l.length ∧ Wr x.2 id (lenBits l W x.1) σ ∧ ∀ j (h : j < l.length), j < x.1 → badLen W l[j] = false) (fun x => l.length - x.1) (0, σ1) ⟨Nat.zero_le _, w1, fun _ _ h => by omega⟩ (Sub.refl _) ?_ ?_
        · (refine wX ?_)
          exact elX
        · rintro ⟨i, σ2⟩ ⟨hi, w2, hgood⟩
          dsimp only at hi w2 hgood ⊢
          have hbl := lenBits_length l W i
          have hbl2 : i * (W + 1) ≤ 23 * 16 := Nat.mul_le_mul (by omega) (by omega)
          by_cases h : i < l.length
          · (refine wX ?_)
            (repeat ((refine abr_yes (by omega) ?_); (refine wX ?_)))
            refine aget (by omega) (get_ints h) ?_
            (refine wX ?_)
            refine acell rfl ?_
            (refine wX ?_)
            have bad (hbad : badLen W l[i] = true) : writeCode l ((W : Nat) : Int) = 1 := by
              unfold writeCode
              rw [hok, if_neg (by simp), if_neg h0, if_neg h23, if_pos]
              rw [Int.toNat_natCast, List.any_eq_true]
              exact ⟨_, List.getElem_mem h, hbad⟩
            by_cases h1 : l[i] < 1
            · have hc := bad (decide_eq_true (.inl h1))
              (repeat ((refine abr_yes (by omega) ?_); (refine wX ?_)))
              exact aret VLe.tup_sl w2.sub ⟨by unfold writeBytes; rw [hc]; rfl, rfl⟩
            · refine abr_no h1 ?_
              (refine wX ?_)
              refine ashl_eq (by omega) hp ?_
              (refine wX ?_)
              by_cases h2 : l[i] ≥ ((2 ^ W : Nat) : Int)
              · have hc := bad (decide_eq_true (.inr h2))
                refine abr_yes h2 ?_
                (refine wX ?_)
                exact aret VLe.tup_sl w2.sub ⟨by unfold writeBytes; rw [hc]; rfl, rfl⟩
              · have hg : badLen W l[i] = false := decide_eq_false (by omega)
                refine abr_no h2 ?_
                (refine wX ?_)
                (repeat ((first | refine afit_i64 (by omega) ?_ | rw [List.length_map]); (refine wX ?_)))
                have hlt : l[i].toNat < 2 ^ W := by omega
                have hnat : ((l[i].toNat : Nat) : Int) = l[i] := by omega
                have hget : l[i]?.getD 0 = l[i] := by rw [List.getElem?_eq_getElem h]; rfl
                have b1 := put_bit (lenBits l W i) (decide (i + 1 < l.length)) (by omega)
                have b2 := put_num (lenBits l W i ++ [decide (i + 1 < l.length)]) l[i].toNat W (by rw [List.length_append, hbl]; show _ + 1 + W ≤ _; omega) (by omega) hlt
                have next : lenBits l W (i + 1) = lenBits l W i ++ [decide (i + 1 < l.length)] ++ numBits l[i].toNat W := by
                  rw [lenBits_succ, hget]; simp
                have good2 : ∀ j (h : j < l.length), j < i + 1 → badLen W l[j] = false := by
                  intro j hj hji
                  by_cases e : j = i
                  · subst e; exact hg
                  · exact hgood j hj (by omega)
                by_cases hlast : i + 1 < l.length
                all_goals
                  first
                    | rw [decide_eq_true hlast] at b1 b2 next
                    | rw [decide_eq_false hlast] at b1 b2 next
                  first
                    | refine abr_yes (by omega) ?_
                    | refine abr_no (by omega) ?_
                  (refine wX ?_)
                  refine acall (wPut id _ _ 1 _ _ w2 (by decide) (by omega)) ?_
                  rintro _ σ3 ⟨rfl, w3⟩
                  first
                    | rw [show putBits (lenBits l W i) 1 1 = _ from b1.2] at w3
                    | rw [show putBits (lenBits l W i) 0 1 = _ from b1.2] at w3
                  (refine wX ?_)
                  refine afit_eq (m := ((l[i].toNat : Nat) : Int)) (by rw [← hnat]; exact wrap_u64 (by omega) (by omega)) ?_
                  (refine wX ?_)
                  refine acall (wPut id _ l[i].toNat _ _ _ w3 (by omega) (by rw [List.length_append, hbl]; show _ + 1 ≤ _; omega)) ?_
                  rintro _ σ4 ⟨rfl, w4⟩
                  rw [b2.2, ← next] at w4
                  (refine wX ?_)
                  (repeat ((refine afit_i64 (by omega) ?_); (refine wX ?_)))
                  refine ⟨(i + 1, σ4), ⟨by dsimp only; omega, w4, good2⟩, by dsimp only; omega, Sub.refl _, ?_⟩
                  (refine wX ?_)
                  exact elX
          · have hil : i = l.length := by omega
            have hc : writeCode l ((W : Nat) : Int) = 0 := by
              unfold writeCode
              rw [hok, if_neg (by simp), if_neg h0, if_neg h23, if_neg]
              rw [Int.toNat_natCast, List.any_eq_true]
              rintro ⟨x, hx, hb⟩
              obtain ⟨j, hj, rfl⟩ := List.getElem_of_mem hx
              rw [hgood j hj (by omega)] at hb; cases hb
            (refine wX ?_)
            (repeat ((refine abr_no (by omega) ?_); (refine wX ?_)))
            refine acall (wBytes id _ _ _ w2 (by omega)) ?_
            rintro _ σ_ ⟨rfl, e_⟩
            obtain rfl := e_.symm
            refine ⟨?_, Ext.refl _⟩
            (refine wX ?_)
            exact aret VLe.tup_sl w2.sub ⟨by unfold writeBytes; rw [hc, if_pos rfl, Int.toNat_natCast, hil], rfl⟩
  · have hno := widthNo hw
    have hc : writeCode l w = 9 := by unfold writeCode; rw [if_pos hno]
    rw [hno]
    (refine wX ?_)
    exact aret VLe.tup_sl (Sub.refl _) ⟨by unfold writeBytes; rw [hc]; rfl, rfl⟩
end Go.Proofs.Ytgbpjbpdpgbngaa
/-
  Numbers that skip round: which they are.
-/
namespace Go.Proofs.Ytgbpjbpdpgbngaa
open Go Go.Am

def spaceOk (w : Int) : Prop := 1 ≤ w ∧ w ≤ 16
instance (w : Int) : Decidable (spaceOk w) := by unfold spaceOk; infer_instance
def spaceSize (w : Int) : Int := if spaceOk w then ((2 ^ w.toNat : Nat) : Int) else 0
def isNum (w n : Int) : Bool := decide (0 ≤ n ∧ n < spaceSize w)
theorem shl1_nat {w : Nat} (h : w ≤ 62) : IntKind.i64.wrap ((1 : Int) * 2 ^ (min ((w : Nat) : Int).toNat IntKind.i64.bits)) = ((2 ^ w : Nat) : Int) := by
  have h1 : 2 ^ w ≤ 2 ^ 62 := Nat.pow_le_pow_right (by omega) h
  rw [Int.toNat_natCast, Nat.min_eq_left (show w ≤ IntKind.i64.bits by show w ≤ 64; omega), Int.one_mul]
  have e : (2 : Int) ^ w = ((2 ^ w : Nat) : Int) := by simp
  rw [e]
  generalize 2 ^ w = q at *
  exact wrap_i64 (by omega) (by omega)

theorem sqRight (w : Int) (σ : AHeap) : ACalls Try.prog i_seqnum_Right [.agg [i64v w]] σ fun v σ' => v = boolv (decide (spaceOk w)) ∧ σ' = σ := by
  refine k_seqnum_Right rfl ?_
  (refine wX ?_)
  refine anew rfl fun id hid => ?_
  (refine wX ?_)
  refine aloads (l := [i64v w]) (upd_same _ _ _) (by exact Nat.le_refl 1) rfl ?_
  (refine wX ?_)
  have hs : Sub (upd σ id (.cells (AVal.agg [i64v w]).cells)) σ := Sub.upd_fresh _ hid
  by_cases h0 : w = 0
  · subst h0
    (refine wX ?_)
    exact aret (VLe.refl _) hs ⟨rfl, rfl⟩
  · refine abr_true (by rw [decide_eq_false h0]; rfl) ?_
    (refine wX ?_)
    (repeat ((refine aload (by (repeat (first | with_reducible exact upd_same _ _ _ | assumption | rw [upd_ne _ _ (by first | assumption | (apply Ne.symm; assumption))]))) rfl ?_); (refine wX ?_)))
    by_cases h1 : 1 ≤ w
    · (repeat ((first | refine aload (by (repeat (first | with_reducible exact upd_same _ _ _ | assumption | rw [upd_ne _ _ (by first | assumption | (apply Ne.symm; assumption))]))) rfl ?_ | refine abr_yes (by omega) ?_); (refine wX ?_)))
      exact aret (VLe.refl _) hs ⟨congrArg boolv (dec_congr ⟨fun h => ⟨h1, h⟩, fun h => h.2⟩), rfl⟩
    · (repeat ((refine abr_no (by omega) ?_); (refine wX ?_)))
      exact aret (VLe.refl _) hs ⟨congrArg boolv (decide_eq_false fun h => h1 h.1).symm, rfl⟩

theorem sqSize (w : Int) (σ : AHeap) : ACalls Try.prog i_seqnum_Space_Size [.agg [i64v w]] σ fun v σ' => v = i64v (spaceSize w) ∧ σ' = σ := by
  refine k_seqnum_Space_Size rfl ?_
  (refine wX ?_)
  refine anew rfl fun id hid => ?_
  (refine wX ?_)
  refine aloads (l := [i64v w]) (upd_same _ _ _) (by exact Nat.le_refl 1) rfl ?_
  (refine wX ?_)
  have hs : Sub (upd σ id (.cells (AVal.agg [i64v w]).cells)) σ := Sub.upd_fresh _ hid
  refine acall (sqRight w _) ?_
  rintro _ σ_ ⟨rfl, e_⟩
  obtain rfl := e_.symm
  refine ⟨?_, Ext.refl _⟩
  (refine wX ?_)
  by_cases h : spaceOk w
  · obtain ⟨k, rfl⟩ : ∃ k : Nat, w = k := ⟨w.toNat, by unfold spaceOk at h; omega⟩
    refine abr_false (by rw [decide_eq_true h]; rfl) ?_
    (refine wX ?_)
    (repeat ((refine aload (by (repeat (first | with_reducible exact upd_same _ _ _ | assumption | rw [upd_ne _ _ (by first | assumption | (apply Ne.symm; assumption))]))) rfl ?_); (refine wX ?_)))
    refine ashl_eq (by omega) (shl1_nat (by unfold spaceOk at h; omega)) ?_
    (refine wX ?_)
    exact aret (VLe.refl _) hs ⟨by unfold spaceSize; rw [if_pos h, Int.toNat_natCast], rfl⟩
  · refine abr_true (by rw [decide_eq_false h]; rfl) ?_
    (refine wX ?_)
    exact aret (VLe.refl _) hs ⟨by unfold spaceSize; rw [if_neg h], rfl⟩

theorem sqIs (w n : Int) (σ : AHeap) : ACalls Try.prog i_seqnum_Space_Is [.agg [i64v w], i64v n] σ fun v σ' => v = boolv (isNum w n) ∧ σ' = σ := by
  refine k_seqnum_Space_Is rfl ?_
  (refine wX ?_)
  refine anew rfl fun id hid => ?_
  have hs : Sub (upd σ id (.cells (AVal.agg [i64v w]).cells)) σ := Sub.upd_fresh _ hid
  (refine wX ?_)
  by_cases h : 0 ≤ n
  · (repeat ((refine abr_yes (by omega) ?_); (refine wX ?_)))
    refine aloads (l := [i64v w]) (upd_same _ _ _) (by exact Nat.le_refl 1) rfl ?_
    (refine wX ?_)
    refine acall (sqSize w _) ?_
    rintro _ σ_ ⟨rfl, e_⟩
    obtain rfl := e_.symm
    refine ⟨?_, Ext.refl _⟩
    (refine wX ?_)
    exact aret (VLe.refl _) hs ⟨congrArg boolv (dec_congr ⟨fun h2 => ⟨h, h2⟩, fun h2 => h2.2⟩), rfl⟩
  · (repeat ((refine abr_no (by omega) ?_); (refine wX ?_)))
    exact aret (VLe.refl _) hs ⟨congrArg boolv (decide_eq_false fun h2 => h h2.1).symm, rfl⟩

end Go.Proofs.Ytgbpjbpdpgbngaa
/-
  Packets that are not acknowledged: how many bytes they have.
-/
namespace Go.Proofs.Ytgbpjbpdpgbngaa
open Go Go.Am

/-- May a field be so long? -/
def fieldBad (l : List (List UInt8)) (i : Nat) : Bool := decide ((l[i]?.getD []).length = 0 ∨ ((l[i]?.getD []).length > 2047 ∧ i + 1 < l.length))
def fieldsBad (l : List (List UInt8)) (i : Nat) : Bool := (List.range i).any (fieldBad l)
theorem fieldsBad_succ (l : List (List UInt8)) (i : Nat) : fieldsBad l (i + 1) = (fieldsBad l i || fieldBad l i) := by unfold fieldsBad; rw [List.range_succ, List.any_append]; simp
theorem fieldsBad_of {l : List (List UInt8)} {i n : Nat} (h : i < n) (hb : fieldBad l i = true) : fieldsBad l n = true := List.any_eq_true.2 ⟨i, List.mem_range.2 h, hb⟩
theorem fieldBad_get {l : List (List UInt8)} {i : Nat} (h : i < l.length) : fieldBad l i = decide (l[i].length = 0 ∨ (l[i].length > 2047 ∧ i + 1 < l.length)) := by
  unfold fieldBad; rw [List.getElem?_eq_getElem h]; rfl
/-- How many bytes fields have, behind a head, with lengths of a width. -/
def fieldsV (l : List (List UInt8)) (h w : Int) : Int :=
  if l.length < 1 ∨ l.length > 24 then 0 else if fieldsBad l l.length = true then 0
  else if h + sizeV ((l.length : Int) - 1) w + (total l : Int) > 4000 then 0 else h + sizeV ((l.length : Int) - 1) w + (total l : Int)
end Go.Proofs.Ytgbpjbpdpgbngaa
/-
  Packets that are acknowledged: how many bytes they have.
-/
namespace Go.Proofs.Ytgbpjbpdpgbngaa
open Go Go.Am

structure Pk where
  poll : Bool
  fi : Int
  sn : Int
  part : Bool
  last : Bool
  off : Int
  fs : List (List UInt8)
deriving DecidableEq
abbrev amC (p : Pk) : List AVal := [boolv p.poll, i64v p.fi, i64v p.sn, boolv p.part, boolv p.last, i64v p.off, lists .none p.fs]
abbrev amV (p : Pk) : AVal := .agg [boolv p.poll, i64v p.fi, i64v p.sn, boolv p.part, boolv p.last, i64v p.off, lists .none p.fs]
def amWidth (w : Int) : Bool := decide (w = 10) || decide (w = 16)
theorem amWidth_iff {w : Int} : amWidth w = true ↔ w = 10 ∨ w = 16 := by simp [amWidth]
def lenW (w : Int) : Int := if w = 10 then 11 else 15
def offW (w : Int) : Int := if w = 10 then 15 else 16
def offTop (w : Int) : Int := if w = 10 then 32768 else 65536
def amHead (part : Bool) (w : Int) : Int := if amWidth w = true then (if w = 16 then 3 else 2) + (if part = true then 2 else 0) else 0
theorem amHead_range (part : Bool) (w : Int) : 0 ≤ amHead part w ∧ amHead part w ≤ 5 := by unfold amHead; repeat' split <;> omega
def amBad (p : Pk) (w : Int) : Prop := (amWidth w = false ∨ p.fi < 0 ∨ p.fi > 3 ∨ isNum w p.sn = false) ∨ ((p.part = false ∧ (p.last = true ∨ p.off ≠ 0)) ∨ p.off < 0 ∨ p.off ≥ offTop w)
instance (p : Pk) (w : Int) : Decidable (amBad p w) := by unfold amBad; infer_instance
def amSize (p : Pk) (w : Int) : Int := if amBad p w then 0 else fieldsV p.fs (amHead p.part w) (lenW w)

theorem aIsWidth (w : Int) (σ : AHeap) : ACalls Try.prog i_amd_isWidth [i64v w] σ fun v σ' => v = boolv (amWidth w) ∧ σ' = σ := by
  refine k_amd_isWidth rfl ?_
  (refine wX ?_)
  by_cases h : w = 10
  · subst h
    (refine wX ?_)
    exact aret_same ⟨rfl, rfl⟩
  · refine abr_no h ?_
    (refine wX ?_)
    refine aret_same ⟨?_, rfl⟩
    unfold amWidth
    rw [decide_eq_false h, Bool.false_or]
theorem aLenWidth (w : Int) (σ : AHeap) : ACalls Try.prog i_amd_lenWidth [i64v w] σ fun v σ' => v = i64v (lenW w) ∧ σ' = σ := by
  refine k_amd_lenWidth rfl ?_
  (refine wX ?_)
  by_cases h : w = 10
  · refine abr_yes h ?_
    (refine wX ?_)
    exact aret_same ⟨by unfold lenW; rw [if_pos h], rfl⟩
  · refine abr_no h ?_
    (refine wX ?_)
    exact aret_same ⟨by unfold lenW; rw [if_neg h], rfl⟩
theorem aOffWidth (w : Int) (σ : AHeap) : ACalls Try.prog i_amd_offsetWidth [i64v w] σ fun v σ' => v = i64v (offW w) ∧ σ' = σ := by
  refine k_amd_offsetWidth rfl ?_
  (refine wX ?_)
  by_cases h : w = 10
  · refine abr_yes h ?_
    (refine wX ?_)
    exact aret_same ⟨by unfold offW; rw [if_pos h], rfl⟩
  · refine abr_no h ?_
    (refine wX ?_)
    exact aret_same ⟨by unfold offW; rw [if_neg h], rfl⟩
theorem aHead (part : Bool) (w : Int) (σ : AHeap) : ACalls Try.prog i_amd_Head [boolv part, i64v w] σ fun v σ' => v = i64v (amHead part w) ∧ σ' = σ := by
  refine k_amd_Head rfl ?_
  (refine wX ?_)
  refine acall (aIsWidth w σ) ?_
  rintro _ σ_ ⟨rfl, e_⟩
  obtain rfl := e_.symm
  refine ⟨?_, Ext.refl _⟩
  (refine wX ?_)
  cases hw : amWidth w
  · (refine wX ?_)
    exact aret_same ⟨by unfold amHead; rw [hw]; rfl, rfl⟩
  · (refine wX ?_)
    have e : amHead part w = (if w = 16 then 3 else 2) + (if part = true then 2 else 0) := by unfold amHead; rw [if_pos hw]
    rw [e]
    by_cases h : w = 16
    all_goals
      first | refine abr_yes h ?_ | refine abr_no h ?_
      (refine wX ?_)
      cases part
      all_goals
        (refine wX ?_)
        (repeat ((refine zI (by omega) ?_); (refine wX ?_)))
        first | rw [if_pos h] | rw [if_neg h]
        exact aret_same ⟨rfl, rfl⟩
set_option maxRecDepth 20000 in
set_option maxHeartbeats 1000000 in
theorem aSize (p : Pk) (w : Int) (σ : AHeap) (hl : p.fs.length ≤ 9223372036854775807) : ACalls Try.prog i_amd_Size [amV p, i64v w] σ fun v σ' => v = i64v (amSize p w) ∧ σ' = σ := by
  refine k_amd_Size rfl ?_
  have H := Hp.nil σ
  (refine wX ?_)
  refine hnew H rfl ?_
  clear H
  intro id τ H
  (refine wX ?_)
  refine hnew H rfl ?_
  clear H
  intro i5 τ H
  (refine wX ?_)
  (repeat (((apply zS H; (· repeat first | exact .h | apply AtK.t); (· rfl); (conv => whnf); clear H; intro τ H)); (refine wX ?_)))
  have bad (h : amBad p w) {υ : AHeap} {v : AVal} (e : v = i64v 0) (hυ : υ = σ) : v = i64v (amSize p w) ∧ υ = σ := ⟨by rw [e]; unfold amSize; rw [if_pos h], hυ⟩
  refine acall (aIsWidth w τ) ?_
  rintro _ σ_ ⟨rfl, e_⟩
  obtain rfl := e_.symm
  refine ⟨?_, Ext.refl _⟩
  (refine wX ?_)
  cases hw : amWidth w
  · (refine wX ?_)
    exact aret (VLe.refl _) H.sub (bad (.inl (.inl hw)) rfl rfl)
  (refine wX ?_)
  (repeat (((apply zL H; (· repeat first | exact .h | apply AtK.t); (· rfl))); (refine wX ?_)))
  by_cases h1 : p.fi < 0
  · (repeat ((refine zY (by omega) ?_); (refine wX ?_)))
    exact aret (VLe.refl _) H.sub (bad (.inl (.inr (.inl h1))) rfl rfl)
  by_cases h2 : p.fi > 3
  · (repeat ((first | refine zY (by omega) ?_ | refine zN (by omega) ?_ | (apply zL H; (· repeat first | exact .h | apply AtK.t); (· rfl))); (refine wX ?_)))
    exact aret (VLe.refl _) H.sub (bad (.inl (.inr (.inr (.inl h2)))) rfl rfl)
  (repeat ((first | refine zN (by omega) ?_ | (apply zL H; (· repeat first | exact .h | apply AtK.t); (· rfl)) | (apply zA H; (· repeat first | exact .h | apply AtK.t))); (refine wX ?_)))
  refine acall (sqIs w p.sn τ) ?_
  rintro _ σ_ ⟨rfl, e_⟩
  obtain rfl := e_.symm
  refine ⟨?_, Ext.refl _⟩
  (refine wX ?_)
  cases h3 : isNum w p.sn
  · (refine wX ?_)
    exact aret (VLe.refl _) H.sub (bad (.inl (.inr (.inr (.inr h3)))) rfl rfl)
  (refine wX ?_)
  (repeat (((apply zL H; (· repeat first | exact .h | apply AtK.t); (· rfl))); (refine wX ?_)))
  have hw2 := amWidth_iff.1 hw
  have htop : offTop w = 32768 ∨ offTop w = 65536 := by unfold offTop; split <;> simp
  have hsh : ∀ {K : Int → Prop}, K (offTop w) → AShl .i64 1 (offW w) K := fun {K} h => by
    rcases hw2 with rfl | rfl
    · exact ashl_eq (by decide) (by rfl) h
    · exact ashl_eq (by decide) (by rfl) h
  have hrest : (¬ (p.part = false ∧ (p.last = true ∨ p.off ≠ 0)) ∧ ¬ p.off < 0 ∧ ¬ p.off ≥ offTop w) → ¬ amBad p w := by
    rintro ⟨a, b, c⟩ (h | h | h | h)
    · rcases h with h | h | h | h
      · rw [hw] at h; cases h
      · exact h1 h
      · exact h2 h
      · rw [h3] at h; cases h
    · exact a h
    · exact b h
    · exact c h
  cases hp : p.part
  · (refine wX ?_)
    (repeat (((apply zL H; (· repeat first | exact .h | apply AtK.t); (· rfl))); (refine wX ?_)))
    cases hla : p.last
    · (refine wX ?_)
      (repeat (((apply zL H; (· repeat first | exact .h | apply AtK.t); (· rfl))); (refine wX ?_)))
      by_cases h4 : p.off = 0
      case neg =>
        (repeat ((refine zY (by omega) ?_); (refine wX ?_)))
        exact aret (VLe.refl _) H.sub (bad (.inr (.inl ⟨hp, .inr h4⟩)) rfl rfl)
      (repeat ((first | refine zN (by omega) ?_ | (apply zL H; (· repeat first | exact .h | apply AtK.t); (· rfl))); (refine wX ?_)))
      refine acall (aOffWidth w τ) ?_
      rintro _ σ_ ⟨rfl, e_⟩
      obtain rfl := e_.symm
      refine ⟨?_, Ext.refl _⟩
      (refine wX ?_)
      refine hsh ?_
      (refine wX ?_)
      (repeat ((first | refine zN (by omega) ?_ | (apply zL H; (· repeat first | exact .h | apply AtK.t); (· rfl)) | rw [List.length_map]); (refine wX ?_)))
      have hnb := hrest ⟨fun h => by
        rcases h.2 with h | h
        · rw [hla] at h; cases h
        · exact h h4, by omega, by omega⟩
      have eS : amSize p w = fieldsV p.fs (amHead p.part w) (lenW w) := if_neg hnb
      have hhr := amHead_range p.part w
      rw [eS]
      clear bad hrest hsh eS
      by_cases h6 : p.fs.length < 1
      · (repeat ((refine zY (by omega) ?_); (refine wX ?_)))
        exact aret (VLe.refl _) H.sub ⟨by unfold fieldsV; rw [if_pos (.inl h6)], rfl⟩
      by_cases h7 : p.fs.length > 24
      · (repeat ((first | refine zY (by omega) ?_ | refine zN (by omega) ?_ | (apply zL H; (· repeat first | exact .h | apply AtK.t); (· rfl)) | rw [List.length_map]); (refine wX ?_)))
        exact aret (VLe.refl _) H.sub ⟨by unfold fieldsV; rw [if_pos (.inr h7)], rfl⟩
      (repeat ((first | refine zI (by omega) ?_ | refine zN (by omega) ?_ | (apply zL H; (· repeat first | exact .h | apply AtK.t); (· rfl)) | rw [List.length_map]); (refine wX ?_)))
      refine acall (aHead p.part w τ) ?_
      rintro _ σ_ ⟨rfl, e_⟩
      obtain rfl := e_.symm
      refine ⟨?_, Ext.refl _⟩
      (refine wX ?_)
      refine acall (aLenWidth w τ) ?_
      rintro _ σ_ ⟨rfl, e_⟩
      obtain rfl := e_.symm
      refine ⟨?_, Ext.refl _⟩
      (refine wX ?_)
      refine acall (lSize ((p.fs.length : Int) - 1) (lenW w) τ) ?_
      rintro _ σ_ ⟨rfl, e_⟩
      obtain rfl := e_.symm
      refine ⟨?_, Ext.refl _⟩
      (refine wX ?_)
      generalize amHead p.part w = hd at *
      generalize lenW w = lw at *
      have hsz := sizeV_range ((p.fs.length : Int) - 1) lw
      generalize hSZ : sizeV ((p.fs.length : Int) - 1) lw = sz at *
      have hV (h : fieldsBad p.fs p.fs.length = true ∨ hd + sz + (total p.fs : Int) > 4000) : fieldsV p.fs hd lw = 0 := by
        unfold fieldsV
        rw [if_neg (by omega), hSZ]
        by_cases hb : fieldsBad p.fs p.fs.length = true
        · rw [if_pos hb]
        · rw [if_neg hb, if_pos (h.resolve_left hb)]
      (repeat ((first | refine zI (by omega) ?_ | (apply zL H; (· repeat first | exact .h | apply AtK.t); (· rfl)) | rw [List.length_map]); (refine wX ?_)))
      refine aloop (α := Nat × Int) (fun x => [(s6, i64v x.2), (s84, i64v x.1)]) (fun _ => τ) (fun x => x.1 ≤ p.fs.length ∧ fieldsBad p.fs x.1 = false ∧ x.2 = hd + sz + (total (p.fs.take x.1) : Int) ∧ x.2 ≤ 4000) (fun x => p.fs.length - x.1) (0, hd + sz) ⟨Nat.zero_le _, rfl, by show hd + sz = hd + sz + ((0 : Nat) : Int); omega, by dsimp only; omega⟩ (Sub.refl _) ?_ ?_
      · (refine wX ?_)
        exact elX
      rintro ⟨i, n⟩ ⟨hi, hbad, hn, hle⟩
      dsimp only at hi hbad hn hle ⊢
      by_cases h : i < p.fs.length
      · have hts := total_take_succ p.fs i h
        have htl := total_take_le p.fs (i + 1)
        have hfb := fieldBad_get h
        have hsucc := fieldsBad_succ p.fs i
        rw [hbad, Bool.false_or] at hsucc
        (refine wX ?_)
        (repeat ((refine zY (by omega) ?_); (refine wX ?_)))
        refine aget (by omega) (get_lists h) ?_
        (refine wX ?_)
        (repeat ((first | refine zR rfl ?_ | rw [List.length_map]); (refine wX ?_)))
        by_cases c1 : p.fs[i].length = 0
        · have hbd : fieldBad p.fs i = true := by rw [hfb, decide_eq_true (.inl c1)]
          (repeat ((refine zY (by omega) ?_); (refine wX ?_)))
          exact aret (VLe.refl _) H.sub ⟨by rw [hV (.inl (fieldsBad_of h hbd))], rfl⟩
        by_cases c23 : p.fs[i].length > 2047 ∧ i + 1 < p.fs.length
        · have hbd : fieldBad p.fs i = true := by rw [hfb, decide_eq_true (.inr c23)]
          (repeat ((first | refine zI (by omega) ?_ | refine zY (by omega) ?_ | refine zN (by omega) ?_ | (apply zL H; (· repeat first | exact .h | apply AtK.t); (· rfl)) | rw [List.length_map]); (refine wX ?_)))
          exact aret (VLe.refl _) H.sub ⟨by rw [hV (.inl (fieldsBad_of h hbd))], rfl⟩
        have hbd : fieldBad p.fs i = false := by rw [hfb]; exact decide_eq_false (by omega)
        by_cases c2 : p.fs[i].length > 2047
        all_goals
          by_cases c4 : (p.fs[i].length : Int) > 4000 - n
          · (repeat ((first | refine zI (by omega) ?_ | refine zY (by omega) ?_ | refine zN (by omega) ?_ | (apply zL H; (· repeat first | exact .h | apply AtK.t); (· rfl)) | rw [List.length_map]); (refine wX ?_)))
            exact aret (VLe.refl _) H.sub ⟨by rw [hV (.inr (by omega))], rfl⟩
          · (repeat ((first | refine zI (by omega) ?_ | refine zY (by omega) ?_ | refine zN (by omega) ?_ | (apply zL H; (· repeat first | exact .h | apply AtK.t); (· rfl)) | rw [List.length_map]); (refine wX ?_)))
            refine ⟨(i + 1, n + p.fs[i].length), ⟨h, by dsimp only; rw [hsucc, hbd], by dsimp only; omega, by dsimp only; omega⟩, by dsimp only; omega, Sub.refl _, ?_⟩
            (refine wX ?_)
            exact elX
      · obtain rfl : i = p.fs.length := by omega
        rw [List.take_of_length_le (Nat.le_refl _)] at hn
        (refine wX ?_)
        (repeat ((refine zN (by omega) ?_); (refine wX ?_)))
        refine aret (VLe.refl _) H.sub ⟨?_, rfl⟩
        unfold fieldsV
        rw [if_neg (by omega), hbad, hSZ, if_neg (by simp), if_neg (by omega), hn]
    · (refine wX ?_)
      skip
      exact aret (VLe.refl _) H.sub (bad (.inr (.inl ⟨hp, .inl hla⟩)) rfl rfl)
  · (refine wX ?_)
    (repeat (((apply zL H; (· repeat first | exact .h | apply AtK.t); (· rfl))); (refine wX ?_)))
    by_cases h4 : p.off < 0
    · (repeat ((refine zY (by omega) ?_); (refine wX ?_)))
      exact aret (VLe.refl _) H.sub (bad (.inr (.inr (.inl h4))) rfl rfl)
    (repeat ((first | refine zN (by omega) ?_ | (apply zL H; (· repeat first | exact .h | apply AtK.t); (· rfl))); (refine wX ?_)))
    refine acall (aOffWidth w τ) ?_
    rintro _ σ_ ⟨rfl, e_⟩
    obtain rfl := e_.symm
    refine ⟨?_, Ext.refl _⟩
    (refine wX ?_)
    refine hsh ?_
    (refine wX ?_)
    by_cases h5 : p.off ≥ offTop w
    · (repeat ((refine zY (by omega) ?_); (refine wX ?_)))
      exact aret (VLe.refl _) H.sub (bad (.inr (.inr (.inr h5))) rfl rfl)
    (repeat ((first | refine zN (by omega) ?_ | (apply zL H; (· repeat first | exact .h | apply AtK.t); (· rfl)) | rw [List.length_map]); (refine wX ?_)))
    have hnb := hrest ⟨fun h => by (have := h.1; rw [hp] at this; cases this), h4, h5⟩
    have eS : amSize p w = fieldsV p.fs (amHead p.part w) (lenW w) := if_neg hnb
    have hhr := amHead_range p.part w
    rw [eS]
    clear bad hrest hsh eS
    by_cases h6 : p.fs.length < 1
    · (repeat ((refine zY (by omega) ?_); (refine wX ?_)))
      exact aret (VLe.refl _) H.sub ⟨by unfold fieldsV; rw [if_pos (.inl h6)], rfl⟩
    by_cases h7 : p.fs.length > 24
    · (repeat ((first | refine zY (by omega) ?_ | refine zN (by omega) ?_ | (apply zL H; (· repeat first | exact .h | apply AtK.t); (· rfl)) | rw [List.length_map]); (refine wX ?_)))
      exact aret (VLe.refl _) H.sub ⟨by unfold fieldsV; rw [if_pos (.inr h7)], rfl⟩
    (repeat ((first | refine zI (by omega) ?_ | refine zN (by omega) ?_ | (apply zL H; (· repeat first | exact .h | apply AtK.t); (· rfl)) | rw [List.length_map]); (refine wX ?_)))
    refine acall (aHead p.part w τ) ?_
    rintro _ σ_ ⟨rfl, e_⟩
    obtain rfl := e_.symm
    refine ⟨?_, Ext.refl _⟩
    (refine wX ?_)
    refine acall (aLenWidth w τ) ?_
    rintro _ σ_ ⟨rfl, e_⟩
    obtain rfl := e_.symm
    refine ⟨?_, Ext.refl _⟩
    (refine wX ?_)
    refine acall (lSize ((p.fs.length : Int) - 1) (lenW w) τ) ?_
    rintro _ σ_ ⟨rfl, e_⟩
    obtain rfl := e_.symm
    refine ⟨?_, Ext.refl _⟩
    (refine wX ?_)
    generalize amHead p.part w = hd at *
    generalize lenW w = lw at *
    have hsz := sizeV_range ((p.fs.length : Int) - 1) lw
    generalize hSZ : sizeV ((p.fs.length : Int) - 1) lw = sz at *
    have hV (h : fieldsBad p.fs p.fs.length = true ∨ hd + sz + (total p.fs : Int) > 4000) : fieldsV p.fs hd lw = 0 := by
      unfold fieldsV
      rw [if_neg (by omega), hSZ]
      by_cases hb : fieldsBad p.fs p.fs.length = true
      · rw [if_pos hb]
      · rw [if_neg hb, if_pos (h.resolve_left hb)]
    (repeat ((first | refine zI (by omega) ?_ | (apply zL H; (· repeat first | exact .h | apply AtK.t); (· rfl)) | rw [List.length_map]); (refine wX ?_)))
    refine aloop (α := Nat × Int) (fun x => [(s6, i64v x.2), (s84, i64v x.1)]) (fun _ => τ) (fun x => x.1 ≤ p.fs.length ∧ fieldsBad p.fs x.1 = false ∧ x.2 = hd + sz + (total (p.fs.take x.1) : Int) ∧ x.2 ≤ 4000) (fun x => p.fs.length - x.1) (0, hd + sz) ⟨Nat.zero_le _, rfl, by show hd + sz = hd + sz + ((0 : Nat) : Int); omega, by dsimp only; omega⟩ (Sub.refl _) ?_ ?_
    · (refine wX ?_)
      exact elX
    rintro ⟨i, n⟩ ⟨hi, hbad, hn, hle⟩
    dsimp only at hi hbad hn hle ⊢
    by_cases h : i < p.fs.length
    · have hts := total_take_succ p.fs i h
      have htl := total_take_le p.fs (i + 1)
      have hfb := fieldBad_get h
      have hsucc := fieldsBad_succ p.fs i
      rw [hbad, Bool.false_or] at hsucc
      (refine wX ?_)
      (repeat ((refine zY (by omega) ?_); (refine wX ?_)))
      refine aget (by omega) (get_lists h) ?_
      (refine wX ?_)
      (repeat ((first | refine zR rfl ?_ | rw [List.length_map]); (refine wX ?_)))
      by_cases c1 : p.fs[i].length = 0
      · have hbd : fieldBad p.fs i = true := by rw [hfb, decide_eq_true (.inl c1)]
        (repeat ((refine zY (by omega) ?_); (refine wX ?_)))
        exact aret (VLe.refl _) H.sub ⟨by rw [hV (.inl (fieldsBad_of h hbd))], rfl⟩
      by_cases c23 : p.fs[i].length > 2047 ∧ i + 1 < p.fs.length
      · have hbd : fieldBad p.fs i = true := by rw [hfb, decide_eq_true (.inr c23)]
        (repeat ((first | refine zI (by omega) ?_ | refine zY (by omega) ?_ | refine zN (by omega) ?_ | (apply zL H; (· repeat first | exact .h | apply AtK.t); (· rfl)) | rw [List.length_map]); (refine wX ?_)))
        exact aret (VLe.refl _) H.sub ⟨by rw [hV (.inl (fieldsBad_of h hbd))], rfl⟩
      have hbd : fieldBad p.fs i = false := by rw [hfb]; exact decide_eq_false (by omega)
      by_cases c2 : p.fs[i].length > 2047
      all_goals
        by_cases c4 : (p.fs[i].length : Int) > 4000 - n
        · (repeat ((first | refine zI (by omega) ?_ | refine zY (by omega) ?_ | refine zN (by omega) ?_ | (apply zL H; (· repeat first | exact .h | apply AtK.t); (· rfl)) | rw [List.length_map]); (refine wX ?_)))
          exact aret (VLe.refl _) H.sub ⟨by rw [hV (.inr (by omega))], rfl⟩
        · (repeat ((first | refine zI (by omega) ?_ | refine zY (by omega) ?_ | refine zN (by omega) ?_ | (apply zL H; (· repeat first | exact .h | apply AtK.t); (· rfl)) | rw [List.length_map]); (refine wX ?_)))
          refine ⟨(i + 1, n + p.fs[i].length), ⟨h, by dsimp only; rw [hsucc, hbd], by dsimp only; omega, by dsimp only; omega⟩, by dsimp only; omega, Sub.refl _, ?_⟩
          (refine wX ?_)
          exact elX
    · obtain rfl : i = p.fs.length := by omega
      rw [List.take_of_length_le (Nat.le_refl _)] at hn
      (refine wX ?_)
      (repeat ((refine zN (by omega) ?_); (refine wX ?_)))
      refine aret (VLe.refl _) H.sub ⟨?_, rfl⟩
      unfold fieldsV
      rw [if_neg (by omega), hbad, hSZ, if_neg (by simp), if_neg (by omega), hn]
theorem aRight (p : Pk) (w : Int) (σ : AHeap) (hl : p.fs.length ≤ 9223372036854775807) : ACalls Try.prog i_amd_Right [amV p, i64v w] σ fun v σ' => v = boolv (decide (amSize p w > 0)) ∧ σ' = σ := by
  refine k_amd_Right rfl ?_
  have H := Hp.nil σ
  (refine wX ?_)
  refine hnew H rfl ?_
  clear H
  intro id τ H
  (refine wX ?_)
  (repeat (((apply zA H; (· repeat first | exact .h | apply AtK.t))); (refine wX ?_)))
  refine acall (aSize p w τ hl) ?_
  rintro _ σ_ ⟨rfl, e_⟩
  obtain rfl := e_.symm
  refine ⟨?_, Ext.refl _⟩
  (refine wX ?_)
  exact aret (VLe.refl _) H.sub ⟨congrArg boolv (dec_congr Iff.rfl), rfl⟩
end Go.Proofs.Ytgbpjbpdpgbngaa
/-
  Packets that are acknowledged: their data.
-/
namespace Go.Proofs.Ytgbpjbpdpgbngaa
open Go Go.Am

theorem aData (p : Pk) (σ : AHeap) (hn : p.fs.length ≤ 1000) (ht : total p.fs ≤ 140737488355328) : ACalls Try.prog i_amd_Data [amV p] σ fun v σ' => v = sl .none p.fs.flatten ∧ σ' = σ := by
  refine k_amd_Data rfl ?_
  have H := Hp.nil σ
  (refine wX ?_)
  refine hnew H rfl ?_
  clear H
  intro id τ H
  (refine wX ?_)
  (repeat (((apply zL H; (· repeat first | exact .h | apply AtK.t); (· rfl))); (refine wX ?_)))
  refine acall (Join p.fs .none .full τ (by omega) (show total p.fs ≤ _ by omega)) ?_
  rintro _ σ_ ⟨rfl, e_⟩
  obtain rfl := e_.symm
  refine ⟨?_, Ext.refl _⟩
  (refine wX ?_)
  exact aret (VLe.refl _) H.sub ⟨rfl, rfl⟩
end Go.Proofs.Ytgbpjbpdpgbngaa
