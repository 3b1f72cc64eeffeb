/-
  Texts of this claim, pack 4: Cbase, Ctok, Chp, Cfrz, Cqh, Cconc, Cqi, Cqj, Claw04h.
-/
import Derived.Test.YtagbbpllbiplkaaK3
/-
  Words and contracts that all packages share.
-/
namespace Go.Proofs.Ytagbbpllbiplkaa
set_option linter.unusedVariables false
set_option linter.unusedSimpArgs false
open Go Go.Am

abbrev u16v (b : BitVec 16) : AVal := .v (.int .u16 b.toNat)

abbrev i64v (n : Int) : AVal := .v (.int .i64 n)

abbrev boolv (b : Bool) : AVal := .v (.bool b)

abbrev sl (t : Tok) (bs : List UInt8) : AVal := .slice 1 (bs.map byteV) t

abbrev u64v (n : Nat) : AVal := .v (.int .u64 n)
abbrev u8v (n : Nat) : AVal := .v (.int .u8 n)

theorem get_bytes {bs : List UInt8} {i : Nat} (h : i < bs.length) : (bs.map byteV)[((i : Nat) : Int).toNat]? = some (byteV bs[i]) := by
  rw [Int.toNat_natCast, List.getElem?_map, List.getElem?_eq_getElem h]; rfl

theorem Clone (bs : List UInt8) (t : Tok) (σ : AHeap) (hl : bs.length ≤ 140737488355328) : ACalls Try.prog i_slices_Clone_byte_byte [sl t bs] σ fun v σ' => ∃ tk, Owned σ σ' tk ∧ v = sl tk bs := by
  refine k_slices_Clone_byte_byte rfl ?_
  (conv => whnf)
  refine anil ?_ ?_
  · (conv => whnf)
    refine abr_false rfl ?_
    (conv => whnf)
    refine aapp_full (by simp; omega) fun t' ht' => ?_
    (conv => whnf)
    exact aret_same ⟨_, .tip ht', rfl⟩
  · intro h0
    (conv => whnf)
    refine abr_true rfl ?_
    (conv => whnf)
    have : bs = [] := by simpa using h0
    subst this
    exact aret_same ⟨_, .full σ, rfl⟩

theorem byte_ofNat {n : Nat} (h : n < 256) : byteV (UInt8.ofNat n) = .v (.int .u8 n) := by
  unfold byteV; rw [UInt8.toNat_ofNat']; simp [Nat.mod_eq_of_lt h]

theorem sl_app (t : Tok) (a b : List UInt8) : sl t (a ++ b) = .slice 1 (a.map byteV ++ b.map byteV) t := by simp

theorem byteV_ne (a b : UInt8) : ((a.toNat : Int) ≠ (b.toNat : Int)) ↔ a ≠ b := by
  constructor
  · intro h k; exact h (by rw [k])
  · intro h k; exact h (UInt8.toNat_inj.1 (by omega))

theorem VLe.tup_sl {s : Nat} {xs : List AVal} {t : Tok} {ys : List AVal} : VLe (.tup (.slice s xs t :: ys)) (.tup (.slice s xs .none :: ys)) := VLe.tup (VLe.cons (VLe.slice _ _ _) fun _ _ h => h)

theorem VLe.tup_nil {s : Nat} {ys : List AVal} : VLe (.tup (.slice s [] .full :: ys)) (.tup (.slice s [] .none :: ys)) := VLe.tup_sl

theorem bytes_ok (l : List UInt8) : (l.map byteV).all (okElem 1) = true := by
  rw [List.all_eq_true]; intro x hx; obtain ⟨b, _, rfl⟩ := List.mem_map.1 hx; rfl

theorem bytes_flat (l : List UInt8) : (l.map byteV).flatMap AVal.cells = l.map byteV := by
  induction l with
  | nil => rfl
  | cons x l ih => rw [List.map_cons, List.flatMap_cons, ih]; rfl

theorem bytes_one (l : List UInt8) : ∀ x ∈ l.map byteV, x.cells.length = 1 := by
  intro x hx; obtain ⟨b, _, rfl⟩ := List.mem_map.1 hx; rfl

theorem CloneM (bs : List UInt8) (t : Tok) (σ : AHeap) (hl : bs.length ≤ 140737488355328) : ACalls Try.prog i_slices_Clone_byte_byte [sl t bs] σ fun v σ' => (bs = [] ∧ v = sl .full [] ∧ σ' = σ) ∨ (bs ≠ [] ∧ ∃ r, σ r = none ∧ v = .ms r 1 0 bs.length ∧ σ' = upd σ r (.cells (bs.map byteV))) := by
  refine km_slices_Clone_byte_byte rfl ?_
  (conv => whnf)
  refine anil ?_ ?_
  · (conv => whnf)
    refine abr_false rfl ?_
    (conv => whnf)
    by_cases h0 : bs = []
    · subst h0
      refine aappnew_none (by simp) ?_
      (conv => whnf)
      exact aret_same (.inl ⟨rfl, rfl, rfl⟩)
    · refine aappnew (by simpa using h0) (by simp; omega) (bytes_ok bs) fun r hr => ?_
      rw [bytes_flat, List.length_map]
      (conv => whnf)
      exact aret_same (.inr ⟨h0, r, hr, rfl, rfl⟩)
  · intro h0
    (conv => whnf)
    refine abr_true rfl ?_
    (conv => whnf)
    have : bs = [] := by simpa using h0
    subst this
    exact aret_same (.inl ⟨rfl, rfl, rfl⟩)

theorem xor8 (x y : UInt8) : bitsOp .xor .u8 (x.toNat : Int) (y.toNat : Int) = ((x ^^^ y).toNat : Int) := by
  have h1 : BitVec.ofInt 8 (x.toNat : Int) = x.toBitVec := by
    apply BitVec.eq_of_toNat_eq
    have := x.toNat_lt
    simp
  have h2 : BitVec.ofInt 8 (y.toNat : Int) = y.toBitVec := by
    apply BitVec.eq_of_toNat_eq
    have := y.toNat_lt
    simp
  show IntKind.u8.wrap ((BitVec.ofInt 8 (x.toNat : Int) ^^^ BitVec.ofInt 8 (y.toNat : Int)).toNat) = _
  rw [h1, h2]; exact wrap_u8 (by omega) (by have := (x.toBitVec ^^^ y.toBitVec).isLt; omega)

theorem splice_set {F : List UInt8} {p : Nat} {x : UInt8} (h : p < F.length) : splice (F.map byteV) p [byteV x] = (F.set p x).map byteV := by
  unfold splice
  rw [List.set_eq_take_append_cons_drop, if_pos h]
  simp [List.map_take, List.map_drop]

theorem get_bytesD {bs : List UInt8} {i : Nat} (h : i < bs.length) : (bs.map byteV)[i]? = some (byteV (bs[i]?.getD 0)) := by
  rw [List.getElem?_map, List.getElem?_eq_getElem h]; rfl

end Go.Proofs.Ytagbbpllbiplkaa
/-
  The right to append, beside whatever else is known of the heap.
-/
namespace Go.Proofs.Ytagbbpllbiplkaa
set_option linter.unusedVariables false
set_option linter.unusedSimpArgs false
open Go Go.Am

theorem sub_none {σ σ' : AHeap} (h : Sub σ σ') {id : Nat} (k : σ id = none) : σ' id = none := by
  cases e : σ' id with
  | none => rfl
  | some o => rw [h _ _ e] at k; cases k
theorem sub_del {σ σb : AHeap} {id : Nat} (h : Sub σ σb) (h1 : σb id = none) : Sub (del σ id) σb := fun j o hj => by
  have hne : j ≠ id := fun e => by subst e; rw [h1] at hj; cases hj
  rw [del_ne _ hne]; exact h _ _ hj
theorem sub_upd {σ σb : AHeap} {id : Nat} (o : AObj) (h : Sub σ σb) (h1 : σb id = none) : Sub (upd σ id o) σb := fun j x hj => by
  have hne : j ≠ id := fun e => by subst e; rw [h1] at hj; cases hj
  rw [upd_ne _ _ hne]; exact h _ _ hj
/-- A token that is there, and is not of the heap below. -/
def TokIn (σ σb : AHeap) (tk : Tok) : Prop := tk = .full ∨ ∃ t, tk = .tip t ∧ σ t = some .tip ∧ σb t = none
theorem TokIn.full (σ σb : AHeap) : TokIn σ σb .full := .inl rfl
theorem TokIn.ne {σ σb : AHeap} {tk : Tok} {id : Nat} (o : AObj) (h : TokIn σ σb tk) (k : ∀ t, tk = .tip t → id ≠ t) : TokIn (upd σ id o) σb tk := by
  rcases h with rfl | ⟨t, rfl, h1, h2⟩
  · exact .inl rfl
  · exact .inr ⟨t, rfl, by rw [upd_ne _ _ (Ne.symm (k t rfl))]; exact h1, h2⟩
theorem TokIn.ne_of {σ σb : AHeap} {tk : Tok} {id : Nat} {o : AObj} (h : TokIn σ σb tk) (k : σ id = some o) (ho : o.isTip = false) : ∀ t, tk = .tip t → id ≠ t := by
  rintro t rfl e
  subst e
  rcases h with h | ⟨t', h0, h1, h2⟩
  · cases h
  · cases h0; rw [h1] at k; cases k; cases ho
/-- Something of the heap below is set. -/
theorem TokIn.set {σ σb : AHeap} {tk : Tok} {id : Nat} {o : AObj} (x : AObj) (h : TokIn σ σb tk) (k : σ id = some o) (ho : o.isTip = false) : TokIn (upd σ id x) σb tk := h.ne x (h.ne_of k ho)
theorem TokIn.ext {σ σ' σb : AHeap} {tk : Tok} (h : TokIn σ σb tk) (k : ∀ t, σ t = some .tip → σ' t = some .tip) : TokIn σ' σb tk := by
  rcases h with rfl | ⟨t, rfl, h1, h2⟩
  · exact .inl rfl
  · exact .inr ⟨t, rfl, k t h1, h2⟩
theorem Owned.tokIn {σ σb σ' : AHeap} {tk : Tok} (hs : Sub σ σb) (h : Owned σ σ' tk) : TokIn σ' σb tk := by
  rcases h with ⟨rfl, rfl⟩ | ⟨t, h0, rfl, rfl⟩
  · exact .inl rfl
  · exact .inr ⟨t, rfl, upd_same _ _ _, sub_none hs h0⟩
theorem aapp_in {σ σb : AHeap} {s bytes : Nat} {xs ys : List AVal} {tk : Tok} {K : AVal → AHeap → Prop} (h : TokIn σ σb tk) (hs : Sub σ σb) (hl : (xs.length + ys.length) * bytes ≤ 140737488355328)
    (k : ∀ t' σ', Ext σ σ' → Sub σ' σb → TokIn σ' σb (.tip t') → K (.slice s (xs ++ ys) (.tip t')) σ') : AApp σ s bytes xs tk ys K := by
  rcases h with rfl | ⟨t, rfl, h1, h2⟩
  · refine aapp_full hl fun t ht => k t _ (Ext.upd_fresh _ ht) (sub_upd _ hs (sub_none hs ht)) (.inr ⟨t, rfl, upd_same _ _ _, sub_none hs ht⟩)
  · refine aapp_tip h1 hl fun t' ht' => ?_
    have hb : σb t' = none := sub_none hs ht'
    refine k t' _ (fun id o ho e => ?_) (sub_upd _ (sub_del hs h2) hb) (.inr ⟨t', rfl, upd_same _ _ _, hb⟩)
    have hne : id ≠ t := fun q => by subst q; rw [h1] at e; cases e; cases ho
    have e2 : del σ t id = some o := by rw [del_ne _ hne]; exact e
    rw [upd_ne]; exact e2
    intro q; subst q; rw [e] at ht'; cases ht'
end Go.Proofs.Ytagbbpllbiplkaa
/-
  A heap by what is known of it: objects and rights to append that are new, each apart from the others.
-/
namespace Go.Proofs.Ytagbbpllbiplkaa
set_option linter.unusedVariables false
set_option linter.unusedSimpArgs false
open Go Go.Am

inductive HE where
  | o (i : Nat) (x : AObj)
  | t (k : Tok)
def HE.id : HE → Option Nat
  | .o i _ => some i
  | .t (.tip k) => some k
  | .t _ => none
def HE.ok (σ : AHeap) : HE → Prop
  | .o i x => σ i = some x
  | .t .full => True
  | .t (.tip k) => σ k = some .tip
  | .t _ => False
def ids (L : List HE) : List Nat := L.filterMap HE.id
theorem mem_ids {L : List HE} {i : Nat} : i ∈ ids L ↔ ∃ e ∈ L, e.id = some i := List.mem_filterMap
structure Hp (σb : AHeap) (L : List HE) (σ : AHeap) : Prop where
  sub : Sub σ σb
  nd : (ids L).Nodup
  ok : ∀ e ∈ L, e.ok σ
  new : ∀ i ∈ ids L, σb i = none

theorem HE.ok_ne {e : HE} {σ σ' : AHeap} (h : e.ok σ) (k : ∀ j, e.id = some j → σ' j = σ j) : e.ok σ' := by
  cases e with
  | o j y => exact (k j rfl).trans h
  | t q => cases q with
    | none => exact h
    | full => exact h
    | own _ => exact h
    | tip j => exact (k j rfl).trans h
theorem HE.ok_sub {e : HE} {σ σ' : AHeap} (h : e.ok σ) (k : Sub σ' σ) : e.ok σ' := by
  cases e with
  | o j y => exact k _ _ h
  | t q => cases q with
    | none => exact h
    | full => exact h
    | own _ => exact h
    | tip j => exact k _ _ h
theorem HE.live {e : HE} {σ : AHeap} {i : Nat} (h : e.ok σ) (hi : e.id = some i) : σ i ≠ none := by
  cases e with
  | o j y => cases hi; intro e; rw [show σ i = some y from h] at e; cases e
  | t q => cases q with
    | none => cases hi
    | full => cases hi
    | own _ => cases hi
    | tip j => cases hi; intro e; rw [show σ i = some .tip from h] at e; cases e

theorem perm_erase : ∀ {L : List HE} {k : Nat} {e : HE}, L[k]? = some e → L.Perm (e :: L.eraseIdx k)
  | [], _, _, h => by simp at h
  | a :: l, 0, e, h => by simp at h; subst h; exact .refl _
  | a :: l, k + 1, e, h => ((perm_erase (L := l) (by simpa using h)).cons a).trans (.swap ..)
theorem perm_set : ∀ {L : List HE} {k : Nat} {e : HE}, k < L.length → (e :: L.eraseIdx k).Perm (L.set k e)
  | [], _, _, h => by simp at h
  | a :: l, 0, e, h => .refl _
  | a :: l, k + 1, e, h => (List.Perm.swap ..).trans ((perm_set (L := l) (by simpa using h)).cons a)
theorem del_none {σ : AHeap} {i j : Nat} (h : σ j = none) : del σ i j = none := by unfold del; split <;> simp [h]
namespace Hp
variable {σb σ : AHeap} {L : List HE}
theorem nil (σ : AHeap) : Hp σ [] σ := ⟨Sub.refl _, .nil, nofun, nofun⟩
theorem fresh (H : Hp σb L σ) {i : Nat} (h : σ i = none) : i ∉ ids L ∧ σb i = none :=
  ⟨fun hm => let ⟨e, he, hi⟩ := mem_ids.1 hm; HE.live (H.ok e he) hi h, sub_none H.sub h⟩
theorem cons_o (H : Hp σb L σ) {i : Nat} (h : σ i = none) (x : AObj) : Hp σb (.o i x :: L) (upd σ i x) := by
  obtain ⟨h1, h2⟩ := H.fresh h
  refine ⟨sub_upd _ H.sub h2, List.nodup_cons.2 ⟨h1, H.nd⟩, fun e he => ?_, fun j hj => ?_⟩
  · rcases List.mem_cons.1 he with rfl | he
    · exact upd_same _ _ _
    · exact HE.ok_ne (H.ok e he) fun j hj => upd_ne _ _ fun e' => h1 (mem_ids.2 ⟨e, he, e' ▸ hj⟩)
  · rcases List.mem_cons.1 (show j ∈ i :: ids L from hj) with rfl | hj
    · exact h2
    · exact H.new j hj
theorem cons_tip (H : Hp σb L σ) {i : Nat} (h : σ i = none) : Hp σb (.t (.tip i) :: L) (upd σ i .tip) := by
  obtain ⟨h1, h2⟩ := H.fresh h
  refine ⟨sub_upd _ H.sub h2, List.nodup_cons.2 ⟨h1, H.nd⟩, fun e he => ?_, fun j hj => ?_⟩
  · rcases List.mem_cons.1 he with rfl | he
    · exact upd_same _ _ _
    · exact HE.ok_ne (H.ok e he) fun j hj => upd_ne _ _ fun e' => h1 (mem_ids.2 ⟨e, he, e' ▸ hj⟩)
  · rcases List.mem_cons.1 (show j ∈ i :: ids L from hj) with rfl | hj
    · exact h2
    · exact H.new j hj
theorem cons_full (H : Hp σb L σ) : Hp σb (.t .full :: L) σ :=
  ⟨H.sub, H.nd, fun e he => (List.mem_cons.1 he).elim (fun h => by subst h; trivial) (H.ok e), H.new⟩
theorem perm {L' : List HE} (H : Hp σb L σ) (p : L.Perm L') : Hp σb L' σ :=
  ⟨H.sub, (p.filterMap _).nodup_iff.1 H.nd, fun e he => H.ok e (p.mem_iff.2 he), fun i hi => H.new i ((p.filterMap _).mem_iff.2 hi)⟩
theorem tail {e : HE} (H : Hp σb (e :: L) σ) : Hp σb L σ := by
  refine ⟨H.sub, ?_, fun x hx => H.ok x (List.mem_cons_of_mem _ hx), fun i hi => H.new i ?_⟩
  · have := H.nd
    unfold ids at *
    rw [List.filterMap_cons] at this
    split at this
    · exact this
    · exact (List.nodup_cons.1 this).2
  · obtain ⟨x, hx, hi⟩ := mem_ids.1 hi
    exact mem_ids.2 ⟨x, List.mem_cons_of_mem _ hx, hi⟩
theorem front (H : Hp σb L σ) {k : Nat} {e : HE} (hk : L[k]? = some e) : Hp σb (e :: L.eraseIdx k) σ := by
  exact H.perm (perm_erase hk)
theorem back {k : Nat} {e : HE} (hk : k < L.length) (H : Hp σb (e :: L.eraseIdx k) σ) : Hp σb (L.set k e) σ := H.perm (perm_set hk)
theorem get (H : Hp σb L σ) {k i : Nat} {x : AObj} (hk : L[k]? = some (.o i x)) : σ i = some x := H.ok _ (List.mem_of_getElem? hk)
theorem upd_head {i : Nat} {x : AObj} (H : Hp σb (.o i x :: L) σ) (y : AObj) : Hp σb (.o i y :: L) (upd σ i y) := by
  have h1 : i ∉ ids L := (List.nodup_cons.1 (show (i :: ids L).Nodup from H.nd)).1
  have h2 : σb i = none := H.new i (List.mem_cons_self ..)
  refine ⟨sub_upd _ H.sub h2, H.nd, fun e he => ?_, H.new⟩
  rcases List.mem_cons.1 he with rfl | he
  · exact upd_same _ _ _
  · exact HE.ok_ne (H.ok e (List.mem_cons_of_mem _ he)) fun j hj => upd_ne _ _ fun e' => h1 (mem_ids.2 ⟨e, he, e' ▸ hj⟩)
theorem set (H : Hp σb L σ) {k i : Nat} {x : AObj} (hk : L[k]? = some (.o i x)) (y : AObj) : Hp σb (L.set k (.o i y)) (upd σ i y) :=
  back (List.getElem?_eq_some_iff.1 hk).1 ((H.front hk).upd_head y)
theorem more {σ' : AHeap} (H : Hp σb L σ) (s : Sub σ' σ) : Hp σb L σ' := ⟨s.trans H.sub, H.nd, fun e he => HE.ok_sub (H.ok e he) s, H.new⟩
theorem rebase {σ0 : AHeap} (H : Hp σb L σ) (s : Sub σb σ0) : Hp σ0 L σ := ⟨H.sub.trans s, H.nd, H.ok, fun i hi => sub_none s (H.new i hi)⟩
theorem join {M : List HE} {σ' : AHeap} (H : Hp σb L σ) (N : Hp σ M σ') : Hp σb (M ++ L) σ' := by
  refine ⟨N.sub.trans H.sub, ?_, fun e he => ?_, fun i hi => ?_⟩
  · unfold ids; rw [List.filterMap_append]
    refine List.nodup_append.2 ⟨N.nd, H.nd, fun a ha b hb e => ?_⟩
    subst e
    obtain ⟨x, hx, hi⟩ := mem_ids.1 hb
    exact HE.live (H.ok x hx) hi (N.new a ha)
  · rcases List.mem_append.1 he with he | he
    · exact N.ok e he
    · exact HE.ok_sub (H.ok e he) N.sub
  · unfold ids at hi; rw [List.filterMap_append] at hi
    rcases List.mem_append.1 hi with hi | hi
    · exact sub_none H.sub (N.new i hi)
    · exact H.new i hi
theorem ext {M : List HE} {σ' : AHeap} (N : Hp σ M σ') : Ext σ σ' := fun i o _ e => N.sub i o e
theorem owned {σ' : AHeap} {tk : Tok} (H : Hp σb L σ) (h : Owned σ σ' tk) : Hp σb (.t tk :: L) σ' := by
  rcases h with ⟨rfl, rfl⟩ | ⟨t, h0, rfl, rfl⟩
  · exact H.cons_full
  · exact H.cons_tip h0
theorem toOwned {tk : Tok} {σ' : AHeap} (H : Hp σ [.t tk] σ') : ∃ σ2, Owned σ σ2 tk ∧ Sub σ' σ2 := by
  have := H.ok _ (List.mem_cons_self ..)
  cases tk with
  | none => exact this.elim
  | full => exact ⟨σ, .full _, H.sub⟩
  | own _ => exact this.elim
  | tip t => exact ⟨upd σ t .tip, .tip (H.new t (List.mem_cons_self ..)), fun i o e => by
      by_cases h : i = t
      · subst h; rw [upd_same] at e; cases e; exact this
      · rw [upd_ne _ _ h] at e; exact H.sub _ _ e⟩
/-- The first of two lists alone. -/
theorem left {L M : List HE} (H : Hp σb (L ++ M) σ) : Hp σb L σ := by
  refine ⟨H.sub, ?_, fun e he => H.ok e (List.mem_append_left _ he), fun i hi => H.new i ?_⟩
  · have := H.nd
    unfold ids at this ⊢
    rw [List.filterMap_append] at this
    exact (List.nodup_append.1 this).1
  · obtain ⟨x, hx, hi⟩ := mem_ids.1 hi
    exact mem_ids.2 ⟨x, List.mem_append_left _ hx, hi⟩
theorem comm (L M : List HE) (H : Hp σb (L ++ M) σ) : Hp σb (M ++ L) σ := H.perm List.perm_append_comm
/-- An object is given up. -/
theorem del_head {i : Nat} {x : AObj} (H : Hp σb (.o i x :: L) σ) : Hp σb L (del σ i) := by
  have h1 : i ∉ ids L := (List.nodup_cons.1 (show (i :: ids L).Nodup from H.nd)).1
  have h2 : σb i = none := H.new i (List.mem_cons_self ..)
  refine ⟨sub_del H.sub h2, H.tail.nd, fun e he => ?_, H.tail.new⟩
  exact HE.ok_ne (H.ok e (List.mem_cons_of_mem _ he)) fun j hj => del_ne _ fun e' => h1 (mem_ids.2 ⟨e, he, e' ▸ hj⟩)
theorem del_tip {i : Nat} (H : Hp σb (.t (.tip i) :: L) σ) : Hp σb L (del σ i) := by
  have h1 : i ∉ ids L := (List.nodup_cons.1 (show (i :: ids L).Nodup from H.nd)).1
  have h2 : σb i = none := H.new i (List.mem_cons_self ..)
  refine ⟨sub_del H.sub h2, H.tail.nd, fun e he => ?_, H.tail.new⟩
  exact HE.ok_ne (H.ok e (List.mem_cons_of_mem _ he)) fun j hj => del_ne _ fun e' => h1 (mem_ids.2 ⟨e, he, e' ▸ hj⟩)
end Hp

def setLK : List HE → Nat → HE → (List HE → Prop) → Prop
  | _ :: l, 0, x, k => k (x :: l)
  | e :: l, n + 1, x, k => setLK l n x fun l' => k (e :: l')
  | [], _, _, _ => False
theorem setLK_spec : ∀ {L : List HE} {n : Nat} {x : HE} {k : List HE → Prop}, setLK L n x k → n < L.length ∧ k (L.set n x)
  | [], _, _, _, h => h.elim
  | _ :: _, 0, _, _, h => ⟨Nat.zero_lt_succ _, h⟩
  | e :: l, n + 1, x, k, h => let ⟨a, b⟩ := setLK_spec (L := l) h; ⟨Nat.succ_lt_succ a, b⟩
def eraLK : List HE → Nat → (List HE → Prop) → Prop
  | _ :: l, 0, k => k l
  | e :: l, n + 1, k => eraLK l n fun l' => k (e :: l')
  | [], _, _ => False
theorem eraLK_spec : ∀ {L : List HE} {n : Nat} {k : List HE → Prop}, eraLK L n k → n < L.length ∧ k (L.eraseIdx n)
  | [], _, _, h => h.elim
  | _ :: _, 0, _, h => ⟨Nat.zero_lt_succ _, h⟩
  | e :: l, n + 1, k, h => let ⟨a, b⟩ := eraLK_spec (L := l) h; ⟨Nat.succ_lt_succ a, b⟩
theorem splice_cons {z : AVal} {zs xs : List AVal} {n : Nat} : splice (z :: zs) (n + 1) xs = z :: splice zs n xs := by
  unfold splice; rw [List.take_succ_cons, show n + 1 + xs.length = (n + xs.length) + 1 by omega, List.drop_succ_cons]; rfl
theorem putK_spec : ∀ {cs : List AVal} {off : Nat} {xs : List AVal} {k : List AVal → Prop}, putK cs off xs k → off + xs.length ≤ cs.length ∧ k (splice cs off xs)
  | cs, 0, [], k, h => ⟨Nat.zero_le _, by unfold splice; simpa [putK] using h⟩
  | z :: zs, 0, x :: xs, k, h => by
    have h : putK zs 0 xs fun l => k (x :: l) := h
    obtain ⟨a, b⟩ := putK_spec h
    refine ⟨by simp only [List.length_cons] at *; omega, ?_⟩
    have e : splice (z :: zs) 0 (x :: xs) = x :: splice zs 0 xs := by unfold splice; simp
    rw [e]; exact b
  | z :: zs, n + 1, xs, k, h => by
    have h : putK zs n xs fun l => k (z :: l) := by cases xs <;> exact h
    obtain ⟨a, b⟩ := putK_spec h
    refine ⟨by simp only [List.length_cons] at *; omega, ?_⟩
    rw [splice_cons]; exact b
  | [], 0, x :: xs, k, h => by exact (show False from h).elim
  | [], n + 1, xs, k, h => by cases xs <;> exact (show False from h).elim
def dtK : List AVal → Nat → Nat → (List AVal → Prop) → Prop
  | _ :: l, o + 1, n, k => dtK l o n k
  | x :: l, 0, n + 1, k => dtK l 0 n fun m => k (x :: m)
  | _, 0, 0, k => k []
  | [], _ + 1, _, _ => False
  | [], 0, _ + 1, _ => False
theorem dtK_spec : ∀ {cs : List AVal} {off n : Nat} {k : List AVal → Prop}, dtK cs off n k → off + n ≤ cs.length ∧ k ((cs.drop off).take n)
  | c :: l, o + 1, n, k, h => by
    have h : dtK l o n k := h
    obtain ⟨a, b⟩ := dtK_spec h
    exact ⟨by simp only [List.length_cons]; omega, by rw [List.drop_succ_cons]; exact b⟩
  | x :: l, 0, n + 1, k, h => by
    have h : dtK l 0 n fun m => k (x :: m) := h
    obtain ⟨a, b⟩ := dtK_spec h
    exact ⟨by simp only [List.length_cons]; omega, by simpa using b⟩
  | c :: l, 0, 0, k, h => ⟨by simp, by simpa [dtK] using h⟩
  | [], 0, 0, k, h => ⟨by simp, by simpa [dtK] using h⟩
  | [], _ + 1, _, _, h => (show False from h).elim
  | [], 0, _ + 1, _, h => (show False from h).elim

theorem acellA {cs : List AVal} {off n : Nat} {K : AVal → Prop} (h : dtK cs off n fun l => K (.agg l)) : ACell cs off (some n) K := let ⟨a, b⟩ := dtK_spec h; acells a rfl b
/-- Where an entry stands in a list. -/
inductive AtK : List HE → Nat → HE → Prop
  | h {e : HE} {l : List HE} : AtK (e :: l) 0 e
  | t {e d : HE} {l : List HE} {k : Nat} : AtK l k e → AtK (d :: l) (k + 1) e
theorem AtK.get {L : List HE} {k : Nat} {e : HE} (h : AtK L k e) : L[k]? = some e := by
  induction h with
  | h => rfl
  | t _ ih => rw [List.getElem?_cons_succ]; exact ih
section ops
variable {σb σ : AHeap} {L : List HE}
theorem hnew (H : Hp σb L σ) {xs : List AVal} {K : Nat → AHeap → Prop} (hc : xs.all AVal.isCell = true) (h : ∀ i σ', Hp σb (.o i (.cells xs) :: L) σ' → K i σ') : ANew σ xs K :=
  anew hc fun i hi => h i _ (H.cons_o hi _)
theorem hnewmap (H : Hp σb L σ) {K : Nat → AHeap → Prop} (h : ∀ i σ', Hp σb (.o i (.map []) :: L) σ' → K i σ') : ANewMap σ K :=
  ⟨fun i hi => h i _ (H.cons_o hi _)⟩
theorem hload (H : Hp σb L σ) {k i off : Nat} {cs : List AVal} {x : AVal} {K : AVal → Prop} (hk : L[k]? = some (.o i (.cells cs))) (hx : cs[off]? = some x) (h : K x) : ALoad σ i off none K :=
  aload (H.get hk) hx h
theorem hloadA (H : Hp σb L σ) {k i off n : Nat} {cs : List AVal} {K : AVal → Prop} (hk : L[k]? = some (.o i (.cells cs))) (h : dtK cs off n fun l => K (.agg l)) : ALoad σ i off (some n) K :=
  let ⟨a, b⟩ := dtK_spec h; aloads (H.get hk) a rfl b
theorem hstore (H : Hp σb L σ) {k i off : Nat} {cs xs : List AVal} {K : AHeap → Prop} (hk : L[k]? = some (.o i (.cells cs))) (hc : xs.all AVal.isCell = true)
    (h : putK cs off xs fun l => setLK L k (.o i (.cells l)) fun L' => ∀ σ', Hp σb L' σ' → K σ') : AStore σ i off xs K :=
  let ⟨a, b⟩ := putK_spec h; let ⟨_, d⟩ := setLK_spec b; astore (H.get hk) a hc rfl (d _ (H.set hk _))
theorem hloadB {σ0 : AHeap} {L : List HE} (H : Hp σ0 L σ) {i off : Nat} {cs : List AVal} {x : AVal} {K : AVal → Prop} (b : σ0 i = some (.cells cs)) (hx : cs[off]? = some x) (h : K x) : ALoad σ i off none K :=
  aload (H.sub _ _ b) hx h
theorem hloadAB {σ0 : AHeap} {L : List HE} (H : Hp σ0 L σ) {i off n : Nat} {cs : List AVal} {K : AVal → Prop} (b : σ0 i = some (.cells cs)) (h : dtK cs off n fun l => K (.agg l)) : ALoad σ i off (some n) K :=
  let ⟨a, c⟩ := dtK_spec h; aloads (H.sub _ _ b) a rfl c
theorem hlookB {σ0 : AHeap} {L : List HE} (H : Hp σ0 L σ) {i : Nat} {es : List (Int × AVal)} {n : Int} {zero : AVal} {K : AVal → Prop} (b : σ0 i = some (.map es)) (h : K (((es.find? fun e => e.1 == n).map (·.2)).getD zero)) : ALook σ i n zero K :=
  ⟨es, H.sub _ _ b, h⟩
theorem hlook (H : Hp σb L σ) {k i : Nat} {es : List (Int × AVal)} {n : Int} {zero : AVal} {K : AVal → Prop} (hk : L[k]? = some (.o i (.map es))) (h : K (((es.find? fun e => e.1 == n).map (·.2)).getD zero)) : ALook σ i n zero K :=
  ⟨es, H.get hk, h⟩
theorem hmset (H : Hp σb L σ) {k i : Nat} {es : List (Int × AVal)} {n : Int} {x : AVal} {K : AHeap → Prop} (hk : L[k]? = some (.o i (.map es))) (hx : x.isCell = true)
    (h : setLK L k (.o i (.map (mapSet es n x))) fun L' => ∀ σ', Hp σb L' σ' → K σ') : AMset σ i n x K :=
  let ⟨_, d⟩ := setLK_spec h; ⟨es, H.get hk, hx, d _ (H.set hk _)⟩
theorem hmdel (H : Hp σb L σ) {k i : Nat} {es : List (Int × AVal)} {n : Int} {K : AHeap → Prop} (hk : L[k]? = some (.o i (.map es)))
    (h : setLK L k (.o i (.map (mapDel es n))) fun L' => ∀ σ', Hp σb L' σ' → K σ') : AMdel σ i n K :=
  let ⟨_, d⟩ := setLK_spec h; ⟨es, H.get hk, d _ (H.set hk _)⟩
theorem happ0 {s bytes : Nat} {xs ys : List AVal} {tk : Tok} {K : AVal → AHeap → Prop} (H : Hp σb (.t tk :: L) σ) (hl : (xs.length + ys.length) * bytes ≤ 140737488355328)
    (h : ∀ tk' σ', Hp σb (.t tk' :: L) σ' → K (.slice s (xs ++ ys) tk') σ') : AApp σ s bytes xs tk ys K := by
  have h0 := H.ok _ (List.mem_cons_self ..)
  cases tk with
  | none => exact h0.elim
  | own _ => exact h0.elim
  | full => exact aapp_full hl fun t ht => h _ _ (H.tail.cons_tip ht)
  | tip t =>
    refine aapp_tip h0 hl fun t' ht' => h _ _ ?_
    exact H.del_tip.cons_tip (del_none ht')
theorem happ {k : Nat} {s bytes : Nat} {xs ys : List AVal} {tk : Tok} {K : AVal → AHeap → Prop} (H : Hp σb L σ) (hk : L[k]? = some (.t tk)) (hl : (xs.length + ys.length) * bytes ≤ 140737488355328)
    (h : ∀ tk', setLK L k (.t tk') fun L' => ∀ σ', Hp σb L' σ' → K (.slice s (xs ++ ys) tk') σ') : AApp σ s bytes xs tk ys K :=
  happ0 (H.front hk) hl fun tk' σ' H' => (setLK_spec (h tk')).2 σ' (H'.back (List.getElem?_eq_some_iff.1 hk).1)
/-- An append to a slice that no right is known of yet but is full. -/
theorem happF {s bytes : Nat} {xs ys : List AVal} {K : AVal → AHeap → Prop} (H : Hp σb L σ) (hl : (xs.length + ys.length) * bytes ≤ 140737488355328)
    (h : ∀ tk' σ', Hp σb (.t tk' :: L) σ' → K (.slice s (xs ++ ys) tk') σ') : AApp σ s bytes xs .full ys K := happ0 H.cons_full hl h
theorem happnew (H : Hp σb L σ) {s bytes : Nat} {ys : List AVal} {K : AVal → AHeap → Prop} (hy : ys ≠ []) (hl : ys.length * bytes ≤ 140737488355328) (ho : ys.all (okElem s) = true)
    (h : ∀ r σ', Hp σb (.o r (.cells (ys.flatMap AVal.cells)) :: L) σ' → K (.ms r s 0 ys.length) σ') : AAppNew σ s bytes [] .full ys K :=
  aappnew hy hl ho fun r hr => h r _ (H.cons_o hr _)
theorem happm (H : Hp σb L σ) {k r s len bytes : Nat} {ys cs : List AVal} {K : AVal → AHeap → Prop} (hk : L[k]? = some (.o r (.cells cs))) (hc : len * s = cs.length) (hl : (len + ys.length) * bytes ≤ 140737488355328) (ho : ys.all (okElem s) = true)
    (h : ∀ r', setLK L k (.o r' (.cells (cs ++ ys.flatMap AVal.cells))) fun L' => ∀ σ', Hp σb L' σ' → K (.ms r' s 0 (len + ys.length)) σ') : AAppM σ r s 0 len bytes ys K := by
  refine aappm (H.get hk) hc hl ho fun r' hr' => (setLK_spec (h r')).2 _ ?_
  refine Hp.back (List.getElem?_eq_some_iff.1 hk).1 ?_
  exact ((H.front hk).del_head).cons_o (del_none hr') _
theorem zL (H : Hp σb L σ) {k i off : Nat} {cs : List AVal} {x : AVal} {K : AVal → Prop} (hk : AtK L k (.o i (.cells cs))) (hx : cs[off]? = some x) (h : K x) : ALoad σ i off none K := hload H hk.get hx h
theorem zA (H : Hp σb L σ) {k i off n : Nat} {cs : List AVal} {K : AVal → Prop} (hk : AtK L k (.o i (.cells cs))) (h : dtK cs off n fun l => K (.agg l)) : ALoad σ i off (some n) K := hloadA H hk.get h
theorem zS (H : Hp σb L σ) {k i off : Nat} {cs xs : List AVal} {K : AHeap → Prop} (hk : AtK L k (.o i (.cells cs))) (hc : xs.all AVal.isCell = true)
    (h : putK cs off xs fun l => setLK L k (.o i (.cells l)) fun L' => ∀ σ', Hp σb L' σ' → K σ') : AStore σ i off xs K := hstore H hk.get hc h
theorem zB {σ0 : AHeap} {L : List HE} (H : Hp σ0 L σ) {i off : Nat} {cs : List AVal} {x : AVal} {K : AVal → Prop} (b : σ0 i = some (.cells cs)) (hx : cs[off]? = some x) (h : K x) : ALoad σ i off none K := hloadB H b hx h
theorem zC {σ0 : AHeap} {L : List HE} (H : Hp σ0 L σ) {i off n : Nat} {cs : List AVal} {K : AVal → Prop} (b : σ0 i = some (.cells cs)) (h : dtK cs off n fun l => K (.agg l)) : ALoad σ i off (some n) K := hloadAB H b h
theorem zMs (H : Hp σb L σ) {k i : Nat} {es : List (Int × AVal)} {n : Int} {x : AVal} {K : AHeap → Prop} (hk : AtK L k (.o i (.map es))) (hx : x.isCell = true)
    (h : setLK L k (.o i (.map (mapSet es n x))) fun L' => ∀ σ', Hp σb L' σ' → K σ') : AMset σ i n x K := hmset H hk.get hx h
theorem zMd (H : Hp σb L σ) {k i : Nat} {es : List (Int × AVal)} {n : Int} {K : AHeap → Prop} (hk : AtK L k (.o i (.map es)))
    (h : setLK L k (.o i (.map (mapDel es n))) fun L' => ∀ σ', Hp σb L' σ' → K σ') : AMdel σ i n K := hmdel H hk.get h
theorem zP {k : Nat} {s bytes : Nat} {xs ys : List AVal} {tk : Tok} {K : AVal → AHeap → Prop} (H : Hp σb L σ) (hk : AtK L k (.t tk)) (hl : (xs.length + ys.length) * bytes ≤ 140737488355328)
    (h : ∀ tk', setLK L k (.t tk') fun L' => ∀ σ', Hp σb L' σ' → K (.slice s (xs ++ ys) tk') σ') : AApp σ s bytes xs tk ys K := happ H hk.get hl h
theorem zR {cs : List AVal} {off : Nat} {x : AVal} {K : AVal → Prop} (hx : cs[off]? = some x) (h : K x) : ACell cs off none K := acell hx h
end ops
end Go.Proofs.Ytagbbpllbiplkaa
/-
  A row that was stored into becomes one that is not.
-/
namespace Go.Proofs.Ytagbbpllbiplkaa
set_option linter.unusedVariables false
set_option linter.unusedSimpArgs false
open Go Go.Am

theorem Inv.freeze {κ : Ghost} {σ : AHeap} {w : World} (h : Inv κ σ w) {r s n : Nat} {xs : List AVal} {v : Value} (hr : σ r = some (.cells (xs.flatMap AVal.cells))) (hn : xs.length = n) (hs : ∀ x ∈ xs, x.cells.length = s)
    (hv : RepV κ (.ms r s 0 n) v) : ∃ κ', κ.le κ' ∧ Inv κ' (del σ r) w ∧ RepV κ' (.slice s xs .none) v := by
  obtain ⟨b, c, e, vs, us, ho, hw, hsz, hc, hvs, h1, h2⟩ := h.cells r _ hr
  cases hv with
  | ms q1 q2 q3 q4 =>
    rename_i cap b2 m
    rw [ho] at q1
    cases q1
    have hnone : ∀ o, κ.cell b o = none := (h.obj r b ho).2.2 (by rw [hr]; exact fun e => by cases e)
    let κ' : Ghost := { κ with cell := fun b' o => if b' = b then vs[o]? else κ.cell b' o }
    have hle : κ.le κ' := ⟨rfl, rfl, fun b' o x hx => by
      show (if b' = b then vs[o]? else κ.cell b' o) = some x
      by_cases hb : b' = b
      · subst hb; rw [hnone o] at hx; cases hx
      · rw [if_neg hb]; exact hx, fun _ _ h => h, fun _ _ h => h, fun _ _ h => h⟩
    have hsub : Sub σ (del σ r) := Sub.del r
    refine ⟨κ', hle, ?_, ?_⟩
    · refine ⟨h.below, h.base, fun b' o x hx => ?_, h.size, fun id b' hid => ?_, fun i j b' hi hj => h.inj i j b' (hsub.live hi) (hsub.live hj), fun id cs hcs => ?_, fun id es hes => ?_, fun t b' p ht hk => ?_, ?_⟩
      · have hx : (if b' = b then vs[o]? else κ.cell b' o) = some x := hx
        by_cases hb : b' = b
        · subst hb
          rw [if_pos rfl] at hx
          refine ⟨?_, h1 x (List.mem_of_getElem? hx)⟩
          rw [heap_cell hw, ← Array.getElem?_toList, hc, List.getElem?_append_left (List.getElem?_eq_some_iff.1 hx).1]
          exact hx
        · rw [if_neg hb] at hx
          exact h.cell b' o x hx
      · obtain ⟨g1, g2, g3⟩ := h.obj id b' hid
        refine ⟨g1, g2, fun hl o => ?_⟩
        show (if b' = b then vs[o]? else κ.cell b' o) = none
        by_cases hb : b' = b
        · subst hb
          have : id = r := h.inj id r b' (hsub.live hl) (by rw [hr]; exact fun e => by cases e) hid ho
          subst this
          exact (hl (by unfold del; simp)).elim
        · rw [if_neg hb]; exact g3 (hsub.live hl) o
      · obtain ⟨b', c', e', vs', us', k1, k2, k3, k4, k5, k6, k7⟩ := h.cells id cs (hsub _ _ hcs)
        exact ⟨b', c', e', vs', us', k1, k2, k3, k4, RepL.mono hle k5, k6, k7⟩
      · obtain ⟨b', c', clk, k1, k2, k3, k4⟩ := h.map id es (hsub _ _ hes)
        exact ⟨b', c', clk, k1, k2, k3, RepL.mono hle k4⟩
      · obtain ⟨g1, g2, g3, g4, g5⟩ := h.tip t b' p (hsub _ _ ht) hk
        refine ⟨g1, g2, fun o ho' => ?_, g4, fun t' p' ht' hk' => g5 t' p' (hsub _ _ ht') hk'⟩
        show (if b' = b then vs[o]? else κ.cell b' o) = none
        rw [if_neg (fun hb => g4 r (by rw [hb]; exact ho))]
        exact g3 o ho'
      · obtain ⟨N, hN⟩ := h.fin
        exact ⟨N, fun n hn => ⟨by unfold del; split <;> simp [(hN n hn).1], (hN n hn).2⟩⟩
    · refine .slice hn q3 hs (RepL.mono hle hvs) (fun i x hx => ?_) trivial
      show (if b = b then vs[0 + i]? else κ.cell b (0 + i)) = some x
      rw [if_pos rfl, Nat.zero_add]; exact hx
/-- A call that gives a row of its own gives a slice. -/
theorem acall_freeze {P : Program} {f : FuncId} {args : List AVal} {σ : AHeap} {Q Q' : AVal → AHeap → Prop} (h : ACalls P f args σ Q)
    (k : ∀ v σ', Q v σ' → Q' v σ' ∨ ∃ r s n xs, v = .ms r s 0 n ∧ σ' r = some (.cells (xs.flatMap AVal.cells)) ∧ xs.length = n ∧ (∀ x ∈ xs, x.cells.length = s) ∧ Q' (.slice s xs .none) (del σ' r)) : ACalls P f args σ Q' := by
  rw [ACalls_def] at h ⊢
  intro κ w cargs h1 h2
  refine (h κ w cargs h1 h2).mono fun e w' ⟨v, κ', σ', x, g1, g2, g3, g4, g5⟩ => ?_
  rcases k _ _ g5 with q | ⟨r, s, n, xs, rfl, q2, q3, q4, q5⟩
  · exact ⟨v, κ', σ', x, g1, g2, g3, g4, q⟩
  · obtain ⟨κ2, k1, k2, k3⟩ := Inv.freeze g3 q2 q3 q4 g4
    exact ⟨v, κ2, _, _, g1, g2.trans k1, k2, k3, q5⟩
end Go.Proofs.Ytagbbpllbiplkaa
/-
  What a queue does, told over a list of new objects.
-/
namespace Go.Proofs.Ytagbbpllbiplkaa
set_option linter.unusedVariables false
set_option linter.unusedSimpArgs false
open Go Go.Am

abbrev Txt := Nat × List UInt8 × Tok
abbrev txV (t : Txt) : AVal := .agg [u64v t.1, sl t.2.2 t.2.1]
def strip (t : Txt) : Nat × List UInt8 := (t.1, t.2.1)
theorem get_txs {l : List Txt} {i : Nat} {n : Int} (hn : n = i) (h : i < l.length) : (l.map txV)[n.toNat]? = some (txV l[i]) := by
  subst hn
  rw [Int.toNat_natCast, List.getElem?_map, List.getElem?_eq_getElem h]; rfl
/-- How many bytes texts are. -/
def tot (ts : List (Nat × List UInt8)) : Nat := (ts.map fun t => t.2.length).sum
theorem tot_nil : tot [] = 0 := rfl
theorem tot_cons (t : Nat × List UInt8) (ts : List (Nat × List UInt8)) : tot (t :: ts) = t.2.length + tot ts := by unfold tot; simp
theorem tot_append (a b : List (Nat × List UInt8)) : tot (a ++ b) = tot a + tot b := by unfold tot; simp
/-- What a queue holds. -/
structure QS where
  room : Int
  ts : List (Nat × List UInt8)
  taken : Nat
  last : Nat
deriving DecidableEq
abbrev qcl (q : QS) (xs : List Txt) (tk : Tok) (n : Int) : List AVal := [i64v q.room, .slice 2 (xs.map txV) tk, i64v q.taken, u64v q.last, i64v n]
structure QOk (q : QS) : Prop where
  room1 : 1 ≤ q.room
  room2 : q.room ≤ 20000
  few : q.ts.length ≤ 64
  each : ∀ t ∈ q.ts, 1 ≤ t.2.length ∧ t.2.length ≤ 1000
  begun : match q.ts with
    | [] => q.taken = 0
    | t :: _ => q.taken < t.2.length
  fits : (tot q.ts : Int) - q.taken ≤ q.room
  last : q.last < 1000000
theorem QOk.le {q : QS} (h : QOk q) : (q.taken : Int) ≤ tot q.ts := by
  have := h.begun
  cases e : q.ts with
  | nil => rw [e] at this; rw [this]; exact Int.le_refl _
  | cons t ts =>
    rw [e] at this
    rw [tot_cons]
    have : q.taken < t.2.length := this
    omega
/-- The texts in memory, and what they are. -/
structure QT (q : QS) (xs : List Txt) (n : Int) : Prop where
  ok : QOk q
  ts : xs.map strip = q.ts
  n : n = (tot q.ts : Int) - q.taken
theorem QT.len {q : QS} {xs : List Txt} {n : Int} (h : QT q xs n) : xs.length = q.ts.length := by rw [← h.ts, List.length_map]
theorem CloneT (xs : List Txt) (t : Tok) (σ : AHeap) (hl : xs.length ≤ 1000) : ACalls Try.prog i_queue_text [.slice 2 (xs.map txV) t] σ fun v σ' => ∃ tk, Owned σ σ' tk ∧ v = .slice 2 (xs.map txV) tk := by
  refine k_queue_text rfl ?_
  (conv => whnf)
  refine anil ?_ ?_
  · (conv => whnf)
    refine abr_false rfl ?_
    (conv => whnf)
    refine aapp_full (by rw [List.length_map]; show (0 + xs.length) * 32 ≤ _; omega) fun t' ht' => ?_
    (conv => whnf)
    exact aret_same ⟨_, .tip ht', rfl⟩
  · intro h0
    (conv => whnf)
    refine abr_true rfl ?_
    (conv => whnf)
    have : xs = [] := by simpa using h0
    subst this
    exact aret_same ⟨_, .full σ, rfl⟩
section
variable {σb σ : AHeap} {iq : Nat} {q : QS} {xs : List Txt} {tk : Tok} {n : Int} {F : List HE}
theorem qNew (room : Int) (σ : AHeap) (h : 1 ≤ room ∧ room ≤ 20000) : ACalls Try.prog i_queue_New [i64v room] σ fun v σ' => ∃ iq, v = .tup [.ptr iq 0, i64v 0] ∧ QT ⟨room, [], 0, 0⟩ [] 0 ∧ Hp σ [.o iq (.cells (qcl ⟨room, [], 0, 0⟩ [] .full 0))] σ' := by
  refine k_queue_New rfl ?_
  have H := Hp.nil σ
  ((conv => whnf); (repeat ((first | with_reducible (first | refine zT rfl ?_ | refine zF rfl ?_ | refine zY rfl ?_) | refine zY (by decide) ?_ | refine zN (by decide) ?_ | with_reducible refine zQ ?_); (conv => whnf))))
  (repeat ((first | refine zI (by omega) ?_ | refine zE (by omega) (by omega) ?_ | refine zD (by omega) (by omega) ?_ | refine zY (by omega) ?_ | refine zN (by omega) ?_ | refine amin ?_ | refine amax ?_ | refine zU (by omega) ?_ | refine z8 (by omega) ?_ | refine zX (by omega) (by omega) ?_ | refine zR rfl ?_ | refine acellA ?_ | refine zB H b1 rfl ?_ | refine zC H b1 ?_ | refine zB H b2 rfl ?_ | refine zC H b2 ?_ | refine zB H b3 rfl ?_ | refine zC H b3 ?_ | refine zB H b4 rfl ?_ | refine zC H b4 ?_ | (apply zL H; (· repeat first | exact .h | apply AtK.t); (· rfl)) | (apply zA H; (· repeat first | exact .h | apply AtK.t)) | (apply zS H; (· repeat first | exact .h | apply AtK.t); (· rfl); (conv => whnf); clear H; intro τ H) | rw [List.length_map]); ((conv => whnf); (repeat ((first | with_reducible (first | refine zT rfl ?_ | refine zF rfl ?_ | refine zY rfl ?_) | refine zY (by decide) ?_ | refine zN (by decide) ?_ | with_reducible refine zQ ?_); (conv => whnf))))))
  refine hnew H rfl ?_
  clear H
  intro iq τ H
  ((conv => whnf); (repeat ((first | with_reducible (first | refine zT rfl ?_ | refine zF rfl ?_ | refine zY rfl ?_) | refine zY (by decide) ?_ | refine zN (by decide) ?_ | with_reducible refine zQ ?_); (conv => whnf))))
  (repeat ((first | refine zI (by omega) ?_ | refine zE (by omega) (by omega) ?_ | refine zD (by omega) (by omega) ?_ | refine zY (by omega) ?_ | refine zN (by omega) ?_ | refine amin ?_ | refine amax ?_ | refine zU (by omega) ?_ | refine z8 (by omega) ?_ | refine zX (by omega) (by omega) ?_ | refine zR rfl ?_ | refine acellA ?_ | refine zB H b1 rfl ?_ | refine zC H b1 ?_ | refine zB H b2 rfl ?_ | refine zC H b2 ?_ | refine zB H b3 rfl ?_ | refine zC H b3 ?_ | refine zB H b4 rfl ?_ | refine zC H b4 ?_ | (apply zL H; (· repeat first | exact .h | apply AtK.t); (· rfl)) | (apply zA H; (· repeat first | exact .h | apply AtK.t)) | (apply zS H; (· repeat first | exact .h | apply AtK.t); (· rfl); (conv => whnf); clear H; intro τ H) | rw [List.length_map]); ((conv => whnf); (repeat ((first | with_reducible (first | refine zT rfl ?_ | refine zF rfl ?_ | refine zY rfl ?_) | refine zY (by decide) ?_ | refine zN (by decide) ?_ | with_reducible refine zQ ?_); (conv => whnf))))))
  refine aret (VLe.refl _) (Sub.refl _) ⟨iq, rfl, ⟨⟨h.1, h.2, by simp, by simp, rfl, ?_, Nat.le_of_ble_eq_true rfl⟩, rfl, rfl⟩, H⟩
  show (0 : Int) - 0 ≤ room
  omega
theorem qNewBad (room : Int) (σ : AHeap) (h : room < 1 ∨ room > 20000) : ACalls Try.prog i_queue_New [i64v room] σ fun v σ' => v = .tup [.v (.pointer none), i64v 1] ∧ σ' = σ := by
  refine k_queue_New rfl ?_
  ((conv => whnf); (repeat ((first | with_reducible (first | refine zT rfl ?_ | refine zF rfl ?_ | refine zY rfl ?_) | refine zY (by decide) ?_ | refine zN (by decide) ?_ | with_reducible refine zQ ?_); (conv => whnf))))
  by_cases h1 : room < 1
  · (repeat ((first | refine aload (by (repeat (first | with_reducible exact upd_same _ _ _ | assumption | rw [upd_ne _ _ (by first | assumption | (apply Ne.symm; assumption))]))) rfl ?_ | refine afit_i64 (by omega) ?_ | refine arem_nonneg (by omega) (by omega) ?_ | refine adiv_i64 (by omega) (by omega) ?_ | refine abr_yes (by omega) ?_ | refine abr_no (by omega) ?_ | refine amin ?_ | refine amax ?_ | refine afit_u64 (by omega) ?_ | refine afit_u8 (by omega) ?_ | rw [List.length_map]); ((conv => whnf); (repeat ((first | with_reducible (first | refine zT rfl ?_ | refine zF rfl ?_ | refine zY rfl ?_) | refine zY (by decide) ?_ | refine zN (by decide) ?_ | with_reducible refine zQ ?_); (conv => whnf))))))
    exact aret_same ⟨rfl, rfl⟩
  · (repeat ((first | refine aload (by (repeat (first | with_reducible exact upd_same _ _ _ | assumption | rw [upd_ne _ _ (by first | assumption | (apply Ne.symm; assumption))]))) rfl ?_ | refine afit_i64 (by omega) ?_ | refine arem_nonneg (by omega) (by omega) ?_ | refine adiv_i64 (by omega) (by omega) ?_ | refine abr_yes (by omega) ?_ | refine abr_no (by omega) ?_ | refine amin ?_ | refine amax ?_ | refine afit_u64 (by omega) ?_ | refine afit_u8 (by omega) ?_ | rw [List.length_map]); ((conv => whnf); (repeat ((first | with_reducible (first | refine zT rfl ?_ | refine zF rfl ?_ | refine zY rfl ?_) | refine zY (by decide) ?_ | refine zN (by decide) ?_ | with_reducible refine zQ ?_); (conv => whnf))))))
    exact aret_same ⟨rfl, rfl⟩
theorem qMade (hq : QT q xs n) (b1 : σ iq = some (.cells (qcl q xs tk n))) : ACalls Try.prog i_queue_Queue_made [.ptr iq 0] σ fun v σ' => v = boolv true ∧ σ' = σ := by
  have h1 := hq.ok.room1
  refine k_queue_Queue_made rfl ?_
  have H := Hp.nil σ
  ((conv => whnf); (repeat ((first | with_reducible (first | refine zT rfl ?_ | refine zF rfl ?_ | refine zY rfl ?_) | refine zY (by decide) ?_ | refine zN (by decide) ?_ | with_reducible refine zQ ?_); (conv => whnf))))
  (repeat ((first | refine zI (by omega) ?_ | refine zE (by omega) (by omega) ?_ | refine zD (by omega) (by omega) ?_ | refine zY (by omega) ?_ | refine zN (by omega) ?_ | refine amin ?_ | refine amax ?_ | refine zU (by omega) ?_ | refine z8 (by omega) ?_ | refine zX (by omega) (by omega) ?_ | refine zR rfl ?_ | refine acellA ?_ | refine zB H b1 rfl ?_ | refine zC H b1 ?_ | refine zB H b2 rfl ?_ | refine zC H b2 ?_ | refine zB H b3 rfl ?_ | refine zC H b3 ?_ | refine zB H b4 rfl ?_ | refine zC H b4 ?_ | (apply zL H; (· repeat first | exact .h | apply AtK.t); (· rfl)) | (apply zA H; (· repeat first | exact .h | apply AtK.t)) | (apply zS H; (· repeat first | exact .h | apply AtK.t); (· rfl); (conv => whnf); clear H; intro τ H) | rw [List.length_map]); ((conv => whnf); (repeat ((first | with_reducible (first | refine zT rfl ?_ | refine zF rfl ?_ | refine zY rfl ?_) | refine zY (by decide) ?_ | refine zN (by decide) ?_ | with_reducible refine zQ ?_); (conv => whnf))))))
  exact aret_dec (by omega) (Sub.refl _)
theorem qMadeNil (σ : AHeap) : ACalls Try.prog i_queue_Queue_made [.v (.pointer none)] σ fun v σ' => v = boolv false ∧ σ' = σ := by
  refine k_queue_Queue_made rfl ?_
  ((conv => whnf); (repeat ((first | with_reducible (first | refine zT rfl ?_ | refine zF rfl ?_ | refine zY rfl ?_) | refine zY (by decide) ?_ | refine zN (by decide) ?_ | with_reducible refine zQ ?_); (conv => whnf))))
  exact aret_same ⟨rfl, rfl⟩
theorem qBytes (b1 : σ iq = some (.cells (qcl q xs tk n))) : ACalls Try.prog i_queue_Queue_Bytes [.ptr iq 0] σ fun v σ' => v = i64v n ∧ σ' = σ := by
  refine k_queue_Queue_Bytes rfl ?_
  have H := Hp.nil σ
  ((conv => whnf); (repeat ((first | with_reducible (first | refine zT rfl ?_ | refine zF rfl ?_ | refine zY rfl ?_) | refine zY (by decide) ?_ | refine zN (by decide) ?_ | with_reducible refine zQ ?_); (conv => whnf))))
  (repeat ((first | refine zI (by omega) ?_ | refine zE (by omega) (by omega) ?_ | refine zD (by omega) (by omega) ?_ | refine zY (by omega) ?_ | refine zN (by omega) ?_ | refine amin ?_ | refine amax ?_ | refine zU (by omega) ?_ | refine z8 (by omega) ?_ | refine zX (by omega) (by omega) ?_ | refine zR rfl ?_ | refine acellA ?_ | refine zB H b1 rfl ?_ | refine zC H b1 ?_ | refine zB H b2 rfl ?_ | refine zC H b2 ?_ | refine zB H b3 rfl ?_ | refine zC H b3 ?_ | refine zB H b4 rfl ?_ | refine zC H b4 ?_ | (apply zL H; (· repeat first | exact .h | apply AtK.t); (· rfl)) | (apply zA H; (· repeat first | exact .h | apply AtK.t)) | (apply zS H; (· repeat first | exact .h | apply AtK.t); (· rfl); (conv => whnf); clear H; intro τ H) | rw [List.length_map]); ((conv => whnf); (repeat ((first | with_reducible (first | refine zT rfl ?_ | refine zF rfl ?_ | refine zY rfl ?_) | refine zY (by decide) ?_ | refine zN (by decide) ?_ | with_reducible refine zQ ?_); (conv => whnf))))))
  exact aret_same ⟨rfl, rfl⟩
theorem qBytesNil (σ : AHeap) : ACalls Try.prog i_queue_Queue_Bytes [.v (.pointer none)] σ fun v σ' => v = i64v 0 ∧ σ' = σ := by
  refine k_queue_Queue_Bytes rfl ?_
  ((conv => whnf); (repeat ((first | with_reducible (first | refine zT rfl ?_ | refine zF rfl ?_ | refine zY rfl ?_) | refine zY (by decide) ?_ | refine zN (by decide) ?_ | with_reducible refine zQ ?_); (conv => whnf))))
  exact aret_same ⟨rfl, rfl⟩
def idsL (ts : List (Nat × List UInt8)) : List Nat := ts.map (·.1)
abbrev u64s (t : Tok) (l : List Nat) : AVal := .slice 1 (l.map u64v) t
theorem qIDs (hq : QT q xs n) (b1 : σ iq = some (.cells (qcl q xs tk n))) : ACalls Try.prog i_queue_Queue_IDs [.ptr iq 0] σ fun v σ' => v = u64s .none (idsL q.ts) ∧ σ' = σ := by
  have hl := hq.len
  have few := hq.ok.few
  refine k_queue_Queue_IDs rfl ?_
  have H := Hp.nil σ
  ((conv => whnf); (repeat ((first | with_reducible (first | refine zT rfl ?_ | refine zF rfl ?_ | refine zY rfl ?_) | refine zY (by decide) ?_ | refine zN (by decide) ?_ | with_reducible refine zQ ?_); (conv => whnf))))
  (repeat ((first | refine zI (by omega) ?_ | refine zE (by omega) (by omega) ?_ | refine zD (by omega) (by omega) ?_ | refine zY (by omega) ?_ | refine zN (by omega) ?_ | refine amin ?_ | refine amax ?_ | refine zU (by omega) ?_ | refine z8 (by omega) ?_ | refine zX (by omega) (by omega) ?_ | refine zR rfl ?_ | refine acellA ?_ | refine zB H b1 rfl ?_ | refine zC H b1 ?_ | refine zB H b2 rfl ?_ | refine zC H b2 ?_ | refine zB H b3 rfl ?_ | refine zC H b3 ?_ | refine zB H b4 rfl ?_ | refine zC H b4 ?_ | (apply zL H; (· repeat first | exact .h | apply AtK.t); (· rfl)) | (apply zA H; (· repeat first | exact .h | apply AtK.t)) | (apply zS H; (· repeat first | exact .h | apply AtK.t); (· rfl); (conv => whnf); clear H; intro τ H) | rw [List.length_map]); ((conv => whnf); (repeat ((first | with_reducible (first | refine zT rfl ?_ | refine zF rfl ?_ | refine zY rfl ?_) | refine zY (by decide) ?_ | refine zN (by decide) ?_ | with_reducible refine zQ ?_); (conv => whnf))))))
  refine aloop (α := Nat × Tok × AHeap) (fun y => [(s13, i64v y.1), (s3, u64s y.2.1 ((xs.take y.1).map (·.1)))]) (fun y => y.2.2) (fun y => y.1 ≤ xs.length ∧ Hp σ [.t y.2.1] y.2.2) (fun y => xs.length - y.1) (0, .full, σ) ⟨Nat.zero_le _, H.cons_full⟩ (Sub.refl _) ?_ ?_
  · ((conv => whnf); (repeat ((first | with_reducible (first | refine zT rfl ?_ | refine zF rfl ?_ | refine zY rfl ?_) | refine zY (by decide) ?_ | refine zN (by decide) ?_ | with_reducible refine zQ ?_); (conv => whnf))))
    (repeat' first | with_reducible exact EnvLe.refl _ | (refine EnvLe.node ?_ (by first | exact Or.inl rfl | exact Or.inr (Or.inl rfl) | exact Or.inr (Or.inr ⟨nofun, VLe.slice _ _ _⟩)) ?_))
  clear H
  rintro ⟨i, tk2, υ⟩ ⟨hi, H⟩
  dsimp only at hi H ⊢
  ((conv => whnf); (repeat ((first | with_reducible (first | refine zT rfl ?_ | refine zF rfl ?_ | refine zY rfl ?_) | refine zY (by decide) ?_ | refine zN (by decide) ?_ | with_reducible refine zQ ?_); (conv => whnf))))
  by_cases h : i < xs.length
  · (repeat ((first | refine zI (by omega) ?_ | refine zE (by omega) (by omega) ?_ | refine zD (by omega) (by omega) ?_ | refine zY (by omega) ?_ | refine zN (by omega) ?_ | refine amin ?_ | refine amax ?_ | refine zU (by omega) ?_ | refine z8 (by omega) ?_ | refine zX (by omega) (by omega) ?_ | refine zR rfl ?_ | refine acellA ?_ | refine zB H b1 rfl ?_ | refine zC H b1 ?_ | refine zB H b2 rfl ?_ | refine zC H b2 ?_ | refine zB H b3 rfl ?_ | refine zC H b3 ?_ | refine zB H b4 rfl ?_ | refine zC H b4 ?_ | (apply zL H; (· repeat first | exact .h | apply AtK.t); (· rfl)) | (apply zA H; (· repeat first | exact .h | apply AtK.t)) | (apply zS H; (· repeat first | exact .h | apply AtK.t); (· rfl); (conv => whnf); clear H; intro τ H) | rw [List.length_map]); ((conv => whnf); (repeat ((first | with_reducible (first | refine zT rfl ?_ | refine zF rfl ?_ | refine zY rfl ?_) | refine zY (by decide) ?_ | refine zN (by decide) ?_ | with_reducible refine zQ ?_); (conv => whnf))))))
    refine aget (by omega) (get_txs rfl h) ?_
    ((conv => whnf); (repeat ((first | with_reducible (first | refine zT rfl ?_ | refine zF rfl ?_ | refine zY rfl ?_) | refine zY (by decide) ?_ | refine zN (by decide) ?_ | with_reducible refine zQ ?_); (conv => whnf))))
    (repeat ((first | refine zI (by omega) ?_ | refine zE (by omega) (by omega) ?_ | refine zD (by omega) (by omega) ?_ | refine zY (by omega) ?_ | refine zN (by omega) ?_ | refine amin ?_ | refine amax ?_ | refine zU (by omega) ?_ | refine z8 (by omega) ?_ | refine zX (by omega) (by omega) ?_ | refine zR rfl ?_ | refine acellA ?_ | refine zB H b1 rfl ?_ | refine zC H b1 ?_ | refine zB H b2 rfl ?_ | refine zC H b2 ?_ | refine zB H b3 rfl ?_ | refine zC H b3 ?_ | refine zB H b4 rfl ?_ | refine zC H b4 ?_ | (apply zL H; (· repeat first | exact .h | apply AtK.t); (· rfl)) | (apply zA H; (· repeat first | exact .h | apply AtK.t)) | (apply zS H; (· repeat first | exact .h | apply AtK.t); (· rfl); (conv => whnf); clear H; intro τ H) | rw [List.length_map]); ((conv => whnf); (repeat ((first | with_reducible (first | refine zT rfl ?_ | refine zF rfl ?_ | refine zY rfl ?_) | refine zY (by decide) ?_ | refine zN (by decide) ?_ | with_reducible refine zQ ?_); (conv => whnf))))))
    refine hnew H rfl ?_
    clear H
    intro iy τ H
    ((conv => whnf); (repeat ((first | with_reducible (first | refine zT rfl ?_ | refine zF rfl ?_ | refine zY rfl ?_) | refine zY (by decide) ?_ | refine zN (by decide) ?_ | with_reducible refine zQ ?_); (conv => whnf))))
    (repeat ((first | refine zI (by omega) ?_ | refine zE (by omega) (by omega) ?_ | refine zD (by omega) (by omega) ?_ | refine zY (by omega) ?_ | refine zN (by omega) ?_ | refine amin ?_ | refine amax ?_ | refine zU (by omega) ?_ | refine z8 (by omega) ?_ | refine zX (by omega) (by omega) ?_ | refine zR rfl ?_ | refine acellA ?_ | refine zB H b1 rfl ?_ | refine zC H b1 ?_ | refine zB H b2 rfl ?_ | refine zC H b2 ?_ | refine zB H b3 rfl ?_ | refine zC H b3 ?_ | refine zB H b4 rfl ?_ | refine zC H b4 ?_ | (apply zL H; (· repeat first | exact .h | apply AtK.t); (· rfl)) | (apply zA H; (· repeat first | exact .h | apply AtK.t)) | (apply zS H; (· repeat first | exact .h | apply AtK.t); (· rfl); (conv => whnf); clear H; intro τ H) | rw [List.length_map]); ((conv => whnf); (repeat ((first | with_reducible (first | refine zT rfl ?_ | refine zF rfl ?_ | refine zY rfl ?_) | refine zY (by decide) ?_ | refine zN (by decide) ?_ | with_reducible refine zQ ?_); (conv => whnf))))))
    apply zP H
    · (repeat first | exact .h | apply AtK.t)
    · exact (by rw [List.length_map, List.length_map, List.length_take]; show (_ + 1) * 8 ≤ _; omega)
    intro tk3
    (conv => whnf)
    clear H
    intro τ H
    ((conv => whnf); (repeat ((first | with_reducible (first | refine zT rfl ?_ | refine zF rfl ?_ | refine zY rfl ?_) | refine zY (by decide) ?_ | refine zN (by decide) ?_ | with_reducible refine zQ ?_); (conv => whnf))))
    rw [show (((xs.take i).map (·.1)).map u64v) ++ [u64v xs[i].1] = ((xs.take (i + 1)).map (·.1)).map u64v by rw [List.take_add_one, List.getElem?_eq_getElem h, List.map_append, List.map_append]; rfl]
    (repeat ((first | refine zI (by omega) ?_ | refine zE (by omega) (by omega) ?_ | refine zD (by omega) (by omega) ?_ | refine zY (by omega) ?_ | refine zN (by omega) ?_ | refine amin ?_ | refine amax ?_ | refine zU (by omega) ?_ | refine z8 (by omega) ?_ | refine zX (by omega) (by omega) ?_ | refine zR rfl ?_ | refine acellA ?_ | refine zB H b1 rfl ?_ | refine zC H b1 ?_ | refine zB H b2 rfl ?_ | refine zC H b2 ?_ | refine zB H b3 rfl ?_ | refine zC H b3 ?_ | refine zB H b4 rfl ?_ | refine zC H b4 ?_ | (apply zL H; (· repeat first | exact .h | apply AtK.t); (· rfl)) | (apply zA H; (· repeat first | exact .h | apply AtK.t)) | (apply zS H; (· repeat first | exact .h | apply AtK.t); (· rfl); (conv => whnf); clear H; intro τ H) | rw [List.length_map]); ((conv => whnf); (repeat ((first | with_reducible (first | refine zT rfl ?_ | refine zF rfl ?_ | refine zY rfl ?_) | refine zY (by decide) ?_ | refine zN (by decide) ?_ | with_reducible refine zQ ?_); (conv => whnf))))))
    refine ⟨(i + 1, tk3, τ), ⟨h, H.tail⟩, by dsimp only; omega, Sub.refl _, ?_⟩
    ((conv => whnf); (repeat ((first | with_reducible (first | refine zT rfl ?_ | refine zF rfl ?_ | refine zY rfl ?_) | refine zY (by decide) ?_ | refine zN (by decide) ?_ | with_reducible refine zQ ?_); (conv => whnf))))
    (repeat' first | with_reducible exact EnvLe.refl _ | (refine EnvLe.node ?_ (by first | exact Or.inl rfl | exact Or.inr (Or.inl rfl) | exact Or.inr (Or.inr ⟨nofun, VLe.slice _ _ _⟩)) ?_))
  · rw [List.take_of_length_le (by omega)]
    (repeat ((first | refine zI (by omega) ?_ | refine zE (by omega) (by omega) ?_ | refine zD (by omega) (by omega) ?_ | refine zY (by omega) ?_ | refine zN (by omega) ?_ | refine amin ?_ | refine amax ?_ | refine zU (by omega) ?_ | refine z8 (by omega) ?_ | refine zX (by omega) (by omega) ?_ | refine zR rfl ?_ | refine acellA ?_ | refine zB H b1 rfl ?_ | refine zC H b1 ?_ | refine zB H b2 rfl ?_ | refine zC H b2 ?_ | refine zB H b3 rfl ?_ | refine zC H b3 ?_ | refine zB H b4 rfl ?_ | refine zC H b4 ?_ | (apply zL H; (· repeat first | exact .h | apply AtK.t); (· rfl)) | (apply zA H; (· repeat first | exact .h | apply AtK.t)) | (apply zS H; (· repeat first | exact .h | apply AtK.t); (· rfl); (conv => whnf); clear H; intro τ H) | rw [List.length_map]); ((conv => whnf); (repeat ((first | with_reducible (first | refine zT rfl ?_ | refine zF rfl ?_ | refine zY rfl ?_) | refine zY (by decide) ?_ | refine zN (by decide) ?_ | with_reducible refine zQ ?_); (conv => whnf))))))
    have e : xs.map (·.1) = idsL q.ts := by unfold idsL; rw [← hq.ts, List.map_map]; rfl
    rw [e]
    exact aret (VLe.slice _ _ _) H.sub ⟨rfl, rfl⟩
theorem qIDsNil (σ : AHeap) : ACalls Try.prog i_queue_Queue_IDs [.v (.pointer none)] σ fun v σ' => v = .slice 1 [] .none ∧ σ' = σ := by
  refine k_queue_Queue_IDs rfl ?_
  ((conv => whnf); (repeat ((first | with_reducible (first | refine zT rfl ?_ | refine zF rfl ?_ | refine zY rfl ?_) | refine zY (by decide) ?_ | refine zN (by decide) ?_ | with_reducible refine zQ ?_); (conv => whnf))))
  exact aret (VLe.slice _ _ _) (Sub.refl _) ⟨rfl, rfl⟩
/-- The first text, and what waits of it. -/
def frontV (q : QS) : Nat × List UInt8 × Bool := match q.ts with
  | [] => (0, [], false)
  | t :: _ => (t.1, t.2.drop q.taken, decide (q.taken > 0))
set_option maxRecDepth 10000 in
theorem qFront (hq : QT q xs n) (b1 : σ iq = some (.cells (qcl q xs tk n))) : ACalls Try.prog i_queue_Queue_Front [.ptr iq 0] σ fun v σ' => v = .tup [u64v (frontV q).1, sl .none (frontV q).2.1, boolv (frontV q).2.2] ∧ σ' = σ := by
  refine k_queue_Queue_Front rfl ?_
  have H := Hp.nil σ
  ((conv => whnf); (repeat ((first | with_reducible (first | refine zT rfl ?_ | refine zF rfl ?_ | refine zY rfl ?_) | refine zY (by decide) ?_ | refine zN (by decide) ?_ | with_reducible refine zQ ?_); (conv => whnf))))
  refine acall (qMade hq b1) ?_
  rintro _ σ_ ⟨rfl, e_⟩
  obtain rfl := e_.symm
  refine ⟨?_, Ext.refl _⟩
  ((conv => whnf); (repeat ((first | with_reducible (first | refine zT rfl ?_ | refine zF rfl ?_ | refine zY rfl ?_) | refine zY (by decide) ?_ | refine zN (by decide) ?_ | with_reducible refine zQ ?_); (conv => whnf))))
  (repeat ((first | refine zI (by omega) ?_ | refine zE (by omega) (by omega) ?_ | refine zD (by omega) (by omega) ?_ | refine zY (by omega) ?_ | refine zN (by omega) ?_ | refine amin ?_ | refine amax ?_ | refine zU (by omega) ?_ | refine z8 (by omega) ?_ | refine zX (by omega) (by omega) ?_ | refine zR rfl ?_ | refine acellA ?_ | refine zB H b1 rfl ?_ | refine zC H b1 ?_ | refine zB H b2 rfl ?_ | refine zC H b2 ?_ | refine zB H b3 rfl ?_ | refine zC H b3 ?_ | refine zB H b4 rfl ?_ | refine zC H b4 ?_ | (apply zL H; (· repeat first | exact .h | apply AtK.t); (· rfl)) | (apply zA H; (· repeat first | exact .h | apply AtK.t)) | (apply zS H; (· repeat first | exact .h | apply AtK.t); (· rfl); (conv => whnf); clear H; intro τ H) | rw [List.length_map]); ((conv => whnf); (repeat ((first | with_reducible (first | refine zT rfl ?_ | refine zF rfl ?_ | refine zY rfl ?_) | refine zY (by decide) ?_ | refine zN (by decide) ?_ | with_reducible refine zQ ?_); (conv => whnf))))))
  cases xs with
  | nil =>
    have hts : q.ts = [] := hq.ts.symm
    ((conv => whnf); (repeat ((first | with_reducible (first | refine zT rfl ?_ | refine zF rfl ?_ | refine zY rfl ?_) | refine zY (by decide) ?_ | refine zN (by decide) ?_ | with_reducible refine zQ ?_); (conv => whnf))))
    (repeat ((first | refine zI (by omega) ?_ | refine zE (by omega) (by omega) ?_ | refine zD (by omega) (by omega) ?_ | refine zY (by omega) ?_ | refine zN (by omega) ?_ | refine amin ?_ | refine amax ?_ | refine zU (by omega) ?_ | refine z8 (by omega) ?_ | refine zX (by omega) (by omega) ?_ | refine zR rfl ?_ | refine acellA ?_ | refine zB H b1 rfl ?_ | refine zC H b1 ?_ | refine zB H b2 rfl ?_ | refine zC H b2 ?_ | refine zB H b3 rfl ?_ | refine zC H b3 ?_ | refine zB H b4 rfl ?_ | refine zC H b4 ?_ | (apply zL H; (· repeat first | exact .h | apply AtK.t); (· rfl)) | (apply zA H; (· repeat first | exact .h | apply AtK.t)) | (apply zS H; (· repeat first | exact .h | apply AtK.t); (· rfl); (conv => whnf); clear H; intro τ H) | rw [List.length_map]); ((conv => whnf); (repeat ((first | with_reducible (first | refine zT rfl ?_ | refine zF rfl ?_ | refine zY rfl ?_) | refine zY (by decide) ?_ | refine zN (by decide) ?_ | with_reducible refine zQ ?_); (conv => whnf))))))
    refine aret (VLe.tup (VLe.cons (VLe.refl _) (VLe.cons (VLe.slice _ _ _) fun _ _ h => h))) (Sub.refl _) ⟨?_, rfl⟩
    unfold frontV; rw [hts]; rfl
  | cons t xs =>
    have hts : q.ts = strip t :: xs.map strip := hq.ts.symm
    have hb := hq.ok.begun
    have he := hq.ok.each (strip t) (by rw [hts]; exact List.mem_cons_self ..)
    rw [hts] at hb
    rw [show (t :: xs).length = xs.length + 1 from rfl]
    ((conv => whnf); (repeat ((first | with_reducible (first | refine zT rfl ?_ | refine zF rfl ?_ | refine zY rfl ?_) | refine zY (by decide) ?_ | refine zN (by decide) ?_ | with_reducible refine zQ ?_); (conv => whnf))))
    (repeat ((first | refine zI (by omega) ?_ | refine zE (by omega) (by omega) ?_ | refine zD (by omega) (by omega) ?_ | refine zY (by omega) ?_ | refine zN (by omega) ?_ | refine amin ?_ | refine amax ?_ | refine zU (by omega) ?_ | refine z8 (by omega) ?_ | refine zX (by omega) (by omega) ?_ | refine zR rfl ?_ | refine acellA ?_ | refine zB H b1 rfl ?_ | refine zC H b1 ?_ | refine zB H b2 rfl ?_ | refine zC H b2 ?_ | refine zB H b3 rfl ?_ | refine zC H b3 ?_ | refine zB H b4 rfl ?_ | refine zC H b4 ?_ | (apply zL H; (· repeat first | exact .h | apply AtK.t); (· rfl)) | (apply zA H; (· repeat first | exact .h | apply AtK.t)) | (apply zS H; (· repeat first | exact .h | apply AtK.t); (· rfl); (conv => whnf); clear H; intro τ H) | rw [List.length_map]); ((conv => whnf); (repeat ((first | with_reducible (first | refine zT rfl ?_ | refine zF rfl ?_ | refine zY rfl ?_) | refine zY (by decide) ?_ | refine zN (by decide) ?_ | with_reducible refine zQ ?_); (conv => whnf))))))
    refine aget (x := txV t) (by omega) rfl ?_
    ((conv => whnf); (repeat ((first | with_reducible (first | refine zT rfl ?_ | refine zF rfl ?_ | refine zY rfl ?_) | refine zY (by decide) ?_ | refine zN (by decide) ?_ | with_reducible refine zQ ?_); (conv => whnf))))
    (repeat ((first | refine zI (by omega) ?_ | refine zE (by omega) (by omega) ?_ | refine zD (by omega) (by omega) ?_ | refine zY (by omega) ?_ | refine zN (by omega) ?_ | refine amin ?_ | refine amax ?_ | refine zU (by omega) ?_ | refine z8 (by omega) ?_ | refine zX (by omega) (by omega) ?_ | refine zR rfl ?_ | refine acellA ?_ | refine zB H b1 rfl ?_ | refine zC H b1 ?_ | refine zB H b2 rfl ?_ | refine zC H b2 ?_ | refine zB H b3 rfl ?_ | refine zC H b3 ?_ | refine zB H b4 rfl ?_ | refine zC H b4 ?_ | (apply zL H; (· repeat first | exact .h | apply AtK.t); (· rfl)) | (apply zA H; (· repeat first | exact .h | apply AtK.t)) | (apply zS H; (· repeat first | exact .h | apply AtK.t); (· rfl); (conv => whnf); clear H; intro τ H) | rw [List.length_map]); ((conv => whnf); (repeat ((first | with_reducible (first | refine zT rfl ?_ | refine zF rfl ?_ | refine zY rfl ?_) | refine zY (by decide) ?_ | refine zN (by decide) ?_ | with_reducible refine zQ ?_); (conv => whnf))))))
    refine aget (x := txV t) (by omega) rfl ?_
    ((conv => whnf); (repeat ((first | with_reducible (first | refine zT rfl ?_ | refine zF rfl ?_ | refine zY rfl ?_) | refine zY (by decide) ?_ | refine zN (by decide) ?_ | with_reducible refine zQ ?_); (conv => whnf))))
    (repeat ((first | refine zI (by omega) ?_ | refine zE (by omega) (by omega) ?_ | refine zD (by omega) (by omega) ?_ | refine zY (by omega) ?_ | refine zN (by omega) ?_ | refine amin ?_ | refine amax ?_ | refine zU (by omega) ?_ | refine z8 (by omega) ?_ | refine zX (by omega) (by omega) ?_ | refine zR rfl ?_ | refine acellA ?_ | refine zB H b1 rfl ?_ | refine zC H b1 ?_ | refine zB H b2 rfl ?_ | refine zC H b2 ?_ | refine zB H b3 rfl ?_ | refine zC H b3 ?_ | refine zB H b4 rfl ?_ | refine zC H b4 ?_ | (apply zL H; (· repeat first | exact .h | apply AtK.t); (· rfl)) | (apply zA H; (· repeat first | exact .h | apply AtK.t)) | (apply zS H; (· repeat first | exact .h | apply AtK.t); (· rfl); (conv => whnf); clear H; intro τ H) | rw [List.length_map]); ((conv => whnf); (repeat ((first | with_reducible (first | refine zT rfl ?_ | refine zF rfl ?_ | refine zY rfl ?_) | refine zY (by decide) ?_ | refine zN (by decide) ?_ | with_reducible refine zQ ?_); (conv => whnf))))))
    refine acut (by omega) (by have : q.taken < t.2.1.length := hb; omega) (by omega) ?_
    ((conv => whnf); (repeat ((first | with_reducible (first | refine zT rfl ?_ | refine zF rfl ?_ | refine zY rfl ?_) | refine zY (by decide) ?_ | refine zN (by decide) ?_ | with_reducible refine zQ ?_); (conv => whnf))))
    (repeat ((first | refine zI (by omega) ?_ | refine zE (by omega) (by omega) ?_ | refine zD (by omega) (by omega) ?_ | refine zY (by omega) ?_ | refine zN (by omega) ?_ | refine amin ?_ | refine amax ?_ | refine zU (by omega) ?_ | refine z8 (by omega) ?_ | refine zX (by omega) (by omega) ?_ | refine zR rfl ?_ | refine acellA ?_ | refine zB H b1 rfl ?_ | refine zC H b1 ?_ | refine zB H b2 rfl ?_ | refine zC H b2 ?_ | refine zB H b3 rfl ?_ | refine zC H b3 ?_ | refine zB H b4 rfl ?_ | refine zC H b4 ?_ | (apply zL H; (· repeat first | exact .h | apply AtK.t); (· rfl)) | (apply zA H; (· repeat first | exact .h | apply AtK.t)) | (apply zS H; (· repeat first | exact .h | apply AtK.t); (· rfl); (conv => whnf); clear H; intro τ H) | rw [List.length_map]); ((conv => whnf); (repeat ((first | with_reducible (first | refine zT rfl ?_ | refine zF rfl ?_ | refine zY rfl ?_) | refine zY (by decide) ?_ | refine zN (by decide) ?_ | with_reducible refine zQ ?_); (conv => whnf))))))
    rw [show ((q.taken : Nat) : Int).toNat = q.taken by omega, show ((t.2.1.length : Nat) : Int).toNat = t.2.1.length by omega, List.take_of_length_le (by simp), ← List.map_drop]
    refine acall (Clone (t.2.1.drop q.taken) _ _ (by have := he.2; unfold strip at this; rw [List.length_drop]; dsimp only at this; omega)) ?_
    rintro v σ' ⟨tk3, ho, rfl⟩
    refine ⟨?_, ho.ext⟩
    ((conv => whnf); (repeat ((first | with_reducible (first | refine zT rfl ?_ | refine zF rfl ?_ | refine zY rfl ?_) | refine zY (by decide) ?_ | refine zN (by decide) ?_ | with_reducible refine zQ ?_); (conv => whnf))))
    refine aret (VLe.tup (VLe.cons (VLe.refl _) (VLe.cons (VLe.slice _ _ _) fun _ _ h => h))) ho.sub ⟨?_, rfl⟩
    unfold frontV; rw [hts]
    rw [show @decide ((0 : Int) < ((q.taken : Nat) : Int)) (ltDec 0 _) = decide (q.taken > 0) from dec_congr (by omega)]
    rfl
theorem qFrontNil (σ : AHeap) : ACalls Try.prog i_queue_Queue_Front [.v (.pointer none)] σ fun v σ' => v = .tup [u64v 0, sl .none [], boolv false] ∧ σ' = σ := by
  refine k_queue_Queue_Front rfl ?_
  ((conv => whnf); (repeat ((first | with_reducible (first | refine zT rfl ?_ | refine zF rfl ?_ | refine zY rfl ?_) | refine zY (by decide) ?_ | refine zN (by decide) ?_ | with_reducible refine zQ ?_); (conv => whnf))))
  refine acall (qMadeNil σ) ?_
  rintro _ σ_ ⟨rfl, e_⟩
  obtain rfl := e_.symm
  refine ⟨?_, Ext.refl _⟩
  ((conv => whnf); (repeat ((first | with_reducible (first | refine zT rfl ?_ | refine zF rfl ?_ | refine zY rfl ?_) | refine zY (by decide) ?_ | refine zN (by decide) ?_ | with_reducible refine zQ ?_); (conv => whnf))))
  exact aret (VLe.tup (VLe.cons (VLe.refl _) (VLe.cons (VLe.slice _ _ _) fun _ _ h => h))) (Sub.refl _) ⟨rfl, rfl⟩
def pushCode (q : QS) (b : List UInt8) : Int := if b.length = 0 then 1 else if b.length > 1000 then 2 else if q.ts.length ≥ 64 ∨ (b.length : Int) > q.room - ((tot q.ts : Int) - q.taken) then 5 else 0
def pushQ (q : QS) (b : List UInt8) : QS := if pushCode q b = 0 then ⟨q.room, q.ts ++ [(q.last + 1, b)], q.taken, q.last + 1⟩ else q
def pushId (q : QS) (b : List UInt8) : Nat := if pushCode q b = 0 then q.last + 1 else 0
set_option maxRecDepth 20000 in
theorem qPush (hq : QT q xs n) (H : Hp σb (.o iq (.cells (qcl q xs tk n)) :: F) σ) (b : List UInt8) (t : Tok) (hlast : q.last < 900000) (hbl : b.length ≤ 140737488351232) :
    ACalls Try.prog i_queue_Queue_Push [.ptr iq 0, sl t b] σ fun v σ' => v = .tup [u64v (pushId q b), i64v (pushCode q b)] ∧ ∃ xs' tk' n', QT (pushQ q b) xs' n' ∧ Hp σb (.o iq (.cells (qcl (pushQ q b) xs' tk' n')) :: F) σ' := by
  have hxl := hq.len
  have hle := hq.ok.le
  have r1 := hq.ok.room1
  have r2 := hq.ok.room2
  have r3 := hq.ok.fits
  have hn := hq.n
  have bad (c : Int) (hc : pushCode q b = c) (h0 : c ≠ 0) {υ : AHeap} (H : Hp σb (.o iq (.cells (qcl q xs tk n)) :: F) υ) : (AVal.tup [u64v 0, i64v c] = .tup [u64v (pushId q b), i64v (pushCode q b)] ∧ ∃ xs' tk' n', QT (pushQ q b) xs' n' ∧ Hp σb (.o iq (.cells (qcl (pushQ q b) xs' tk' n')) :: F) υ) := by
    unfold pushId pushQ
    rw [hc, if_neg h0, if_neg h0]
    exact ⟨rfl, xs, tk, n, hq, H⟩
  refine k_queue_Queue_Push rfl ?_
  ((conv => whnf); (repeat ((first | with_reducible (first | refine zT rfl ?_ | refine zF rfl ?_ | refine zY rfl ?_) | refine zY (by decide) ?_ | refine zN (by decide) ?_ | with_reducible refine zQ ?_); (conv => whnf))))
  refine acall (qMade hq (H.get (k := 0) rfl)) ?_
  rintro _ σ_ ⟨rfl, e_⟩
  obtain rfl := e_.symm
  refine ⟨?_, Ext.refl _⟩
  ((conv => whnf); (repeat ((first | with_reducible (first | refine zT rfl ?_ | refine zF rfl ?_ | refine zY rfl ?_) | refine zY (by decide) ?_ | refine zN (by decide) ?_ | with_reducible refine zQ ?_); (conv => whnf))))
  (repeat ((first | refine zI (by omega) ?_ | refine zE (by omega) (by omega) ?_ | refine zD (by omega) (by omega) ?_ | refine zY (by omega) ?_ | refine zN (by omega) ?_ | refine amin ?_ | refine amax ?_ | refine zU (by omega) ?_ | refine z8 (by omega) ?_ | refine zX (by omega) (by omega) ?_ | refine zR rfl ?_ | refine acellA ?_ | refine zB H b1 rfl ?_ | refine zC H b1 ?_ | refine zB H b2 rfl ?_ | refine zC H b2 ?_ | refine zB H b3 rfl ?_ | refine zC H b3 ?_ | refine zB H b4 rfl ?_ | refine zC H b4 ?_ | (apply zL H; (· repeat first | exact .h | apply AtK.t); (· rfl)) | (apply zA H; (· repeat first | exact .h | apply AtK.t)) | (apply zS H; (· repeat first | exact .h | apply AtK.t); (· rfl); (conv => whnf); clear H; intro τ H) | rw [List.length_map]); ((conv => whnf); (repeat ((first | with_reducible (first | refine zT rfl ?_ | refine zF rfl ?_ | refine zY rfl ?_) | refine zY (by decide) ?_ | refine zN (by decide) ?_ | with_reducible refine zQ ?_); (conv => whnf))))))
  by_cases h0 : b.length = 0
  · (repeat ((first | refine zI (by omega) ?_ | refine zE (by omega) (by omega) ?_ | refine zD (by omega) (by omega) ?_ | refine zY (by omega) ?_ | refine zN (by omega) ?_ | refine amin ?_ | refine amax ?_ | refine zU (by omega) ?_ | refine z8 (by omega) ?_ | refine zX (by omega) (by omega) ?_ | refine zR rfl ?_ | refine acellA ?_ | refine zB H b1 rfl ?_ | refine zC H b1 ?_ | refine zB H b2 rfl ?_ | refine zC H b2 ?_ | refine zB H b3 rfl ?_ | refine zC H b3 ?_ | refine zB H b4 rfl ?_ | refine zC H b4 ?_ | (apply zL H; (· repeat first | exact .h | apply AtK.t); (· rfl)) | (apply zA H; (· repeat first | exact .h | apply AtK.t)) | (apply zS H; (· repeat first | exact .h | apply AtK.t); (· rfl); (conv => whnf); clear H; intro τ H) | rw [List.length_map]); ((conv => whnf); (repeat ((first | with_reducible (first | refine zT rfl ?_ | refine zF rfl ?_ | refine zY rfl ?_) | refine zY (by decide) ?_ | refine zN (by decide) ?_ | with_reducible refine zQ ?_); (conv => whnf))))))
    exact aret (VLe.refl _) (Sub.refl _) (bad 1 (by unfold pushCode; rw [if_pos h0]) (by decide) H)
  by_cases h1 : b.length > 1000
  · (repeat ((first | refine zI (by omega) ?_ | refine zE (by omega) (by omega) ?_ | refine zD (by omega) (by omega) ?_ | refine zY (by omega) ?_ | refine zN (by omega) ?_ | refine amin ?_ | refine amax ?_ | refine zU (by omega) ?_ | refine z8 (by omega) ?_ | refine zX (by omega) (by omega) ?_ | refine zR rfl ?_ | refine acellA ?_ | refine zB H b1 rfl ?_ | refine zC H b1 ?_ | refine zB H b2 rfl ?_ | refine zC H b2 ?_ | refine zB H b3 rfl ?_ | refine zC H b3 ?_ | refine zB H b4 rfl ?_ | refine zC H b4 ?_ | (apply zL H; (· repeat first | exact .h | apply AtK.t); (· rfl)) | (apply zA H; (· repeat first | exact .h | apply AtK.t)) | (apply zS H; (· repeat first | exact .h | apply AtK.t); (· rfl); (conv => whnf); clear H; intro τ H) | rw [List.length_map]); ((conv => whnf); (repeat ((first | with_reducible (first | refine zT rfl ?_ | refine zF rfl ?_ | refine zY rfl ?_) | refine zY (by decide) ?_ | refine zN (by decide) ?_ | with_reducible refine zQ ?_); (conv => whnf))))))
    exact aret (VLe.refl _) (Sub.refl _) (bad 2 (by unfold pushCode; rw [if_neg h0, if_pos h1]) (by decide) H)
  (repeat ((first | refine zI (by omega) ?_ | refine zE (by omega) (by omega) ?_ | refine zD (by omega) (by omega) ?_ | refine zY (by omega) ?_ | refine zN (by omega) ?_ | refine amin ?_ | refine amax ?_ | refine zU (by omega) ?_ | refine z8 (by omega) ?_ | refine zX (by omega) (by omega) ?_ | refine zR rfl ?_ | refine acellA ?_ | refine zB H b1 rfl ?_ | refine zC H b1 ?_ | refine zB H b2 rfl ?_ | refine zC H b2 ?_ | refine zB H b3 rfl ?_ | refine zC H b3 ?_ | refine zB H b4 rfl ?_ | refine zC H b4 ?_ | (apply zL H; (· repeat first | exact .h | apply AtK.t); (· rfl)) | (apply zA H; (· repeat first | exact .h | apply AtK.t)) | (apply zS H; (· repeat first | exact .h | apply AtK.t); (· rfl); (conv => whnf); clear H; intro τ H) | rw [List.length_map]); ((conv => whnf); (repeat ((first | with_reducible (first | refine zT rfl ?_ | refine zF rfl ?_ | refine zY rfl ?_) | refine zY (by decide) ?_ | refine zN (by decide) ?_ | with_reducible refine zQ ?_); (conv => whnf))))))
  by_cases h2 : q.ts.length ≥ 64
  · (repeat ((first | refine zI (by omega) ?_ | refine zE (by omega) (by omega) ?_ | refine zD (by omega) (by omega) ?_ | refine zY (by omega) ?_ | refine zN (by omega) ?_ | refine amin ?_ | refine amax ?_ | refine zU (by omega) ?_ | refine z8 (by omega) ?_ | refine zX (by omega) (by omega) ?_ | refine zR rfl ?_ | refine acellA ?_ | refine zB H b1 rfl ?_ | refine zC H b1 ?_ | refine zB H b2 rfl ?_ | refine zC H b2 ?_ | refine zB H b3 rfl ?_ | refine zC H b3 ?_ | refine zB H b4 rfl ?_ | refine zC H b4 ?_ | (apply zL H; (· repeat first | exact .h | apply AtK.t); (· rfl)) | (apply zA H; (· repeat first | exact .h | apply AtK.t)) | (apply zS H; (· repeat first | exact .h | apply AtK.t); (· rfl); (conv => whnf); clear H; intro τ H) | rw [List.length_map]); ((conv => whnf); (repeat ((first | with_reducible (first | refine zT rfl ?_ | refine zF rfl ?_ | refine zY rfl ?_) | refine zY (by decide) ?_ | refine zN (by decide) ?_ | with_reducible refine zQ ?_); (conv => whnf))))))
    exact aret (VLe.refl _) (Sub.refl _) (bad 5 (by unfold pushCode; rw [if_neg h0, if_neg h1, if_pos (.inl h2)]) (by decide) H)
  (repeat ((first | refine zI (by omega) ?_ | refine zE (by omega) (by omega) ?_ | refine zD (by omega) (by omega) ?_ | refine zY (by omega) ?_ | refine zN (by omega) ?_ | refine amin ?_ | refine amax ?_ | refine zU (by omega) ?_ | refine z8 (by omega) ?_ | refine zX (by omega) (by omega) ?_ | refine zR rfl ?_ | refine acellA ?_ | refine zB H b1 rfl ?_ | refine zC H b1 ?_ | refine zB H b2 rfl ?_ | refine zC H b2 ?_ | refine zB H b3 rfl ?_ | refine zC H b3 ?_ | refine zB H b4 rfl ?_ | refine zC H b4 ?_ | (apply zL H; (· repeat first | exact .h | apply AtK.t); (· rfl)) | (apply zA H; (· repeat first | exact .h | apply AtK.t)) | (apply zS H; (· repeat first | exact .h | apply AtK.t); (· rfl); (conv => whnf); clear H; intro τ H) | rw [List.length_map]); ((conv => whnf); (repeat ((first | with_reducible (first | refine zT rfl ?_ | refine zF rfl ?_ | refine zY rfl ?_) | refine zY (by decide) ?_ | refine zN (by decide) ?_ | with_reducible refine zQ ?_); (conv => whnf))))))
  by_cases h3 : (b.length : Int) > q.room - ((tot q.ts : Int) - q.taken)
  · (repeat ((first | refine zI (by omega) ?_ | refine zE (by omega) (by omega) ?_ | refine zD (by omega) (by omega) ?_ | refine zY (by omega) ?_ | refine zN (by omega) ?_ | refine amin ?_ | refine amax ?_ | refine zU (by omega) ?_ | refine z8 (by omega) ?_ | refine zX (by omega) (by omega) ?_ | refine zR rfl ?_ | refine acellA ?_ | refine zB H b1 rfl ?_ | refine zC H b1 ?_ | refine zB H b2 rfl ?_ | refine zC H b2 ?_ | refine zB H b3 rfl ?_ | refine zC H b3 ?_ | refine zB H b4 rfl ?_ | refine zC H b4 ?_ | (apply zL H; (· repeat first | exact .h | apply AtK.t); (· rfl)) | (apply zA H; (· repeat first | exact .h | apply AtK.t)) | (apply zS H; (· repeat first | exact .h | apply AtK.t); (· rfl); (conv => whnf); clear H; intro τ H) | rw [List.length_map]); ((conv => whnf); (repeat ((first | with_reducible (first | refine zT rfl ?_ | refine zF rfl ?_ | refine zY rfl ?_) | refine zY (by decide) ?_ | refine zN (by decide) ?_ | with_reducible refine zQ ?_); (conv => whnf))))))
    exact aret (VLe.refl _) (Sub.refl _) (bad 5 (by unfold pushCode; rw [if_neg h0, if_neg h1, if_pos (.inr h3)]) (by decide) H)
  have hc : pushCode q b = 0 := by unfold pushCode; rw [if_neg h0, if_neg h1, if_neg (by omega)]
  (repeat ((first | refine zI (by omega) ?_ | refine zE (by omega) (by omega) ?_ | refine zD (by omega) (by omega) ?_ | refine zY (by omega) ?_ | refine zN (by omega) ?_ | refine amin ?_ | refine amax ?_ | refine zU (by omega) ?_ | refine z8 (by omega) ?_ | refine zX (by omega) (by omega) ?_ | refine zR rfl ?_ | refine acellA ?_ | refine zB H b1 rfl ?_ | refine zC H b1 ?_ | refine zB H b2 rfl ?_ | refine zC H b2 ?_ | refine zB H b3 rfl ?_ | refine zC H b3 ?_ | refine zB H b4 rfl ?_ | refine zC H b4 ?_ | (apply zL H; (· repeat first | exact .h | apply AtK.t); (· rfl)) | (apply zA H; (· repeat first | exact .h | apply AtK.t)) | (apply zS H; (· repeat first | exact .h | apply AtK.t); (· rfl); (conv => whnf); clear H; intro τ H) | rw [List.length_map]); ((conv => whnf); (repeat ((first | with_reducible (first | refine zT rfl ?_ | refine zF rfl ?_ | refine zY rfl ?_) | refine zY (by decide) ?_ | refine zN (by decide) ?_ | with_reducible refine zQ ?_); (conv => whnf))))))
  refine acut (by omega) (by omega) (by omega) ?_
  ((conv => whnf); (repeat ((first | with_reducible (first | refine zT rfl ?_ | refine zF rfl ?_ | refine zY rfl ?_) | refine zY (by decide) ?_ | refine zN (by decide) ?_ | with_reducible refine zQ ?_); (conv => whnf))))
  refine ⟨rfl, rfl, ?_⟩
  rw [show ((xs.length : Nat) : Int).toNat = xs.length by omega, List.take_of_length_le (by simp), show (0 : Int).toNat = 0 from rfl, List.drop_zero]
  ((conv => whnf); (repeat ((first | with_reducible (first | refine zT rfl ?_ | refine zF rfl ?_ | refine zY rfl ?_) | refine zY (by decide) ?_ | refine zN (by decide) ?_ | with_reducible refine zQ ?_); (conv => whnf))))
  (repeat ((first | refine zI (by omega) ?_ | refine zE (by omega) (by omega) ?_ | refine zD (by omega) (by omega) ?_ | refine zY (by omega) ?_ | refine zN (by omega) ?_ | refine amin ?_ | refine amax ?_ | refine zU (by omega) ?_ | refine z8 (by omega) ?_ | refine zX (by omega) (by omega) ?_ | refine zR rfl ?_ | refine acellA ?_ | refine zB H b1 rfl ?_ | refine zC H b1 ?_ | refine zB H b2 rfl ?_ | refine zC H b2 ?_ | refine zB H b3 rfl ?_ | refine zC H b3 ?_ | refine zB H b4 rfl ?_ | refine zC H b4 ?_ | (apply zL H; (· repeat first | exact .h | apply AtK.t); (· rfl)) | (apply zA H; (· repeat first | exact .h | apply AtK.t)) | (apply zS H; (· repeat first | exact .h | apply AtK.t); (· rfl); (conv => whnf); clear H; intro τ H) | rw [List.length_map]); ((conv => whnf); (repeat ((first | with_reducible (first | refine zT rfl ?_ | refine zF rfl ?_ | refine zY rfl ?_) | refine zY (by decide) ?_ | refine zN (by decide) ?_ | with_reducible refine zQ ?_); (conv => whnf))))))
  refine acall (Clone b _ _ (by omega)) ?_
  rintro v υ ⟨tk3, ho, rfl⟩
  refine ⟨?_, ho.ext⟩
  replace H := (H.owned ho).tail
  clear ho
  ((conv => whnf); (repeat ((first | with_reducible (first | refine zT rfl ?_ | refine zF rfl ?_ | refine zY rfl ?_) | refine zY (by decide) ?_ | refine zN (by decide) ?_ | with_reducible refine zQ ?_); (conv => whnf))))
  refine happF H (by rw [List.length_map]; show (_ + 1) * 32 ≤ _; omega) ?_
  clear H
  intro tk2 τ H
  ((conv => whnf); (repeat ((first | with_reducible (first | refine zT rfl ?_ | refine zF rfl ?_ | refine zY rfl ?_) | refine zY (by decide) ?_ | refine zN (by decide) ?_ | with_reducible refine zQ ?_); (conv => whnf))))
  (repeat ((first | refine zI (by omega) ?_ | refine zE (by omega) (by omega) ?_ | refine zD (by omega) (by omega) ?_ | refine zY (by omega) ?_ | refine zN (by omega) ?_ | refine amin ?_ | refine amax ?_ | refine zU (by omega) ?_ | refine z8 (by omega) ?_ | refine zX (by omega) (by omega) ?_ | refine zR rfl ?_ | refine acellA ?_ | refine zB H b1 rfl ?_ | refine zC H b1 ?_ | refine zB H b2 rfl ?_ | refine zC H b2 ?_ | refine zB H b3 rfl ?_ | refine zC H b3 ?_ | refine zB H b4 rfl ?_ | refine zC H b4 ?_ | (apply zL H; (· repeat first | exact .h | apply AtK.t); (· rfl)) | (apply zA H; (· repeat first | exact .h | apply AtK.t)) | (apply zS H; (· repeat first | exact .h | apply AtK.t); (· rfl); (conv => whnf); clear H; intro τ H) | rw [List.length_map]); ((conv => whnf); (repeat ((first | with_reducible (first | refine zT rfl ?_ | refine zF rfl ?_ | refine zY rfl ?_) | refine zY (by decide) ?_ | refine zN (by decide) ?_ | with_reducible refine zQ ?_); (conv => whnf))))))
  have epq : pushQ q b = ⟨q.room, q.ts ++ [(q.last + 1, b)], q.taken, q.last + 1⟩ := if_pos hc
  have etot : (tot (q.ts ++ [(q.last + 1, b)]) : Int) - q.taken = n + b.length := by
    rw [tot_append, tot_cons, tot_nil]; show ((tot q.ts + (b.length + 0) : Nat) : Int) - _ = _; omega
  rw [show ((q.last : Nat) : Int) + 1 = ((q.last + 1 : Nat) : Int) by omega] at H ⊢
  refine aret (VLe.refl _) (Sub.refl _) ⟨by unfold pushId; rw [if_pos hc, hc], xs ++ [(q.last + 1, b, tk3)], tk2, n + b.length, ?_, ?_⟩
  · rw [epq]
    refine ⟨⟨r1, r2, by dsimp only; rw [List.length_append]; show _ + 1 ≤ 64; omega, ?_, ?_, by dsimp only; rw [etot]; omega, by dsimp only; omega⟩, ?_, etot.symm⟩
    · intro t ht
      rcases List.mem_append.1 ht with h | h
      · exact hq.ok.each t h
      · simp at h; subst h; exact ⟨by dsimp only; omega, by dsimp only; omega⟩
    · have hb := hq.ok.begun
      dsimp only
      cases e : q.ts with
      | nil => rw [e] at hb; show q.taken < b.length; have : q.taken = 0 := hb; omega
      | cons t ts => rw [e] at hb; exact hb
    · rw [List.map_append, hq.ts]; rfl
  · rw [epq]
    have e : (xs ++ [(q.last + 1, b, tk3)]).map txV = xs.map txV ++ [AVal.agg [u64v (q.last + 1), sl tk3 b]] := by rw [List.map_append]; rfl
    unfold qcl
    rw [e]
    exact H.tail
theorem qPushNil (b : List UInt8) (t : Tok) (σ : AHeap) : ACalls Try.prog i_queue_Queue_Push [.v (.pointer none), sl t b] σ fun v σ' => v = .tup [u64v 0, i64v 6] ∧ σ' = σ := by
  refine k_queue_Queue_Push rfl ?_
  ((conv => whnf); (repeat ((first | with_reducible (first | refine zT rfl ?_ | refine zF rfl ?_ | refine zY rfl ?_) | refine zY (by decide) ?_ | refine zN (by decide) ?_ | with_reducible refine zQ ?_); (conv => whnf))))
  refine acall (qMadeNil σ) ?_
  rintro _ σ_ ⟨rfl, e_⟩
  obtain rfl := e_.symm
  refine ⟨?_, Ext.refl _⟩
  ((conv => whnf); (repeat ((first | with_reducible (first | refine zT rfl ?_ | refine zF rfl ?_ | refine zY rfl ?_) | refine zY (by decide) ?_ | refine zN (by decide) ?_ | with_reducible refine zQ ?_); (conv => whnf))))
  exact aret_same ⟨rfl, rfl⟩
end
end Go.Proofs.Ytagbbpllbiplkaa
/-
  Two rows of texts, one behind the other.
-/
namespace Go.Proofs.Ytagbbpllbiplkaa
set_option linter.unusedVariables false
set_option linter.unusedSimpArgs false
open Go Go.Am

theorem grow0 (m : Nat) (σ : AHeap) (hm : m ≤ 100000) : ACalls Try.prog i_slices_Grow_queue_text [.slice 2 [] .full, i64v m] σ fun v σ' => (m = 0 ∧ v = .slice 2 [] .full ∧ σ' = σ) ∨ (0 < m ∧ ∃ r cs, v = .ms r 2 0 0 ∧ Hp σ [.o r (.cells cs)] σ') := by
  refine km_slices_Grow_queue_text rfl ?_
  have H := Hp.nil σ
  ((conv => whnf); (repeat ((first | with_reducible (first | refine zT rfl ?_ | refine zF rfl ?_ | refine zY rfl ?_) | refine zY (by decide) ?_ | refine zN (by decide) ?_ | with_reducible refine zQ ?_); (conv => whnf))))
  (repeat ((first | refine zI (by omega) ?_ | refine zE (by omega) (by omega) ?_ | refine zD (by omega) (by omega) ?_ | refine zY (by omega) ?_ | refine zN (by omega) ?_ | refine amin ?_ | refine amax ?_ | refine zU (by omega) ?_ | refine z8 (by omega) ?_ | refine zX (by omega) (by omega) ?_ | refine zR rfl ?_ | refine acellA ?_ | refine zB H b1 rfl ?_ | refine zC H b1 ?_ | refine zB H b2 rfl ?_ | refine zC H b2 ?_ | refine zB H b3 rfl ?_ | refine zC H b3 ?_ | refine zB H b4 rfl ?_ | refine zC H b4 ?_ | (apply zL H; (· repeat first | exact .h | apply AtK.t); (· rfl)) | (apply zA H; (· repeat first | exact .h | apply AtK.t)) | (apply zS H; (· repeat first | exact .h | apply AtK.t); (· rfl); (conv => whnf); clear H; intro τ H) | rw [List.length_map]); ((conv => whnf); (repeat ((first | with_reducible (first | refine zT rfl ?_ | refine zF rfl ?_ | refine zY rfl ?_) | refine zY (by decide) ?_ | refine zN (by decide) ?_ | with_reducible refine zQ ?_); (conv => whnf))))))
  rw [show (([] : List AVal).length : Int) = 0 from rfl]
  ((conv => whnf); (repeat ((first | with_reducible (first | refine zT rfl ?_ | refine zF rfl ?_ | refine zY rfl ?_) | refine zY (by decide) ?_ | refine zN (by decide) ?_ | with_reducible refine zQ ?_); (conv => whnf))))
  (repeat ((first | refine zI (by omega) ?_ | refine zE (by omega) (by omega) ?_ | refine zD (by omega) (by omega) ?_ | refine zY (by omega) ?_ | refine zN (by omega) ?_ | refine amin ?_ | refine amax ?_ | refine zU (by omega) ?_ | refine z8 (by omega) ?_ | refine zX (by omega) (by omega) ?_ | refine zR rfl ?_ | refine acellA ?_ | refine zB H b1 rfl ?_ | refine zC H b1 ?_ | refine zB H b2 rfl ?_ | refine zC H b2 ?_ | refine zB H b3 rfl ?_ | refine zC H b3 ?_ | refine zB H b4 rfl ?_ | refine zC H b4 ?_ | (apply zL H; (· repeat first | exact .h | apply AtK.t); (· rfl)) | (apply zA H; (· repeat first | exact .h | apply AtK.t)) | (apply zS H; (· repeat first | exact .h | apply AtK.t); (· rfl); (conv => whnf); clear H; intro τ H) | rw [List.length_map]); ((conv => whnf); (repeat ((first | with_reducible (first | refine zT rfl ?_ | refine zF rfl ?_ | refine zY rfl ?_) | refine zY (by decide) ?_ | refine zN (by decide) ?_ | with_reducible refine zQ ?_); (conv => whnf))))))
  by_cases h : m = 0
  · subst h
    (repeat ((first | refine zI (by omega) ?_ | refine zE (by omega) (by omega) ?_ | refine zD (by omega) (by omega) ?_ | refine zY (by omega) ?_ | refine zN (by omega) ?_ | refine amin ?_ | refine amax ?_ | refine zU (by omega) ?_ | refine z8 (by omega) ?_ | refine zX (by omega) (by omega) ?_ | refine zR rfl ?_ | refine acellA ?_ | refine zB H b1 rfl ?_ | refine zC H b1 ?_ | refine zB H b2 rfl ?_ | refine zC H b2 ?_ | refine zB H b3 rfl ?_ | refine zC H b3 ?_ | refine zB H b4 rfl ?_ | refine zC H b4 ?_ | (apply zL H; (· repeat first | exact .h | apply AtK.t); (· rfl)) | (apply zA H; (· repeat first | exact .h | apply AtK.t)) | (apply zS H; (· repeat first | exact .h | apply AtK.t); (· rfl); (conv => whnf); clear H; intro τ H) | rw [List.length_map]); ((conv => whnf); (repeat ((first | with_reducible (first | refine zT rfl ?_ | refine zF rfl ?_ | refine zY rfl ?_) | refine zY (by decide) ?_ | refine zN (by decide) ?_ | with_reducible refine zQ ?_); (conv => whnf))))))
    exact aret_same (.inl ⟨rfl, rfl, rfl⟩)
  · (repeat ((first | refine zI (by omega) ?_ | refine zE (by omega) (by omega) ?_ | refine zD (by omega) (by omega) ?_ | refine zY (by omega) ?_ | refine zN (by omega) ?_ | refine amin ?_ | refine amax ?_ | refine zU (by omega) ?_ | refine z8 (by omega) ?_ | refine zX (by omega) (by omega) ?_ | refine zR rfl ?_ | refine acellA ?_ | refine zB H b1 rfl ?_ | refine zC H b1 ?_ | refine zB H b2 rfl ?_ | refine zC H b2 ?_ | refine zB H b3 rfl ?_ | refine zC H b3 ?_ | refine zB H b4 rfl ?_ | refine zC H b4 ?_ | (apply zL H; (· repeat first | exact .h | apply AtK.t); (· rfl)) | (apply zA H; (· repeat first | exact .h | apply AtK.t)) | (apply zS H; (· repeat first | exact .h | apply AtK.t); (· rfl); (conv => whnf); clear H; intro τ H) | rw [List.length_map]); ((conv => whnf); (repeat ((first | with_reducible (first | refine zT rfl ?_ | refine zF rfl ?_ | refine zY rfl ?_) | refine zY (by decide) ?_ | refine zN (by decide) ?_ | with_reducible refine zQ ?_); (conv => whnf))))))
    refine acut (by simp) (by simp) (by simp) ?_
    ((conv => whnf); (repeat ((first | with_reducible (first | refine zT rfl ?_ | refine zF rfl ?_ | refine zY rfl ?_) | refine zY (by decide) ?_ | refine zN (by decide) ?_ | with_reducible refine zQ ?_); (conv => whnf))))
    refine ⟨.inr ⟨rfl, rfl, ?_⟩⟩
    ((conv => whnf); (repeat ((first | with_reducible (first | refine zT rfl ?_ | refine zF rfl ?_ | refine zY rfl ?_) | refine zY (by decide) ?_ | refine zN (by decide) ?_ | with_reducible refine zQ ?_); (conv => whnf))))
    (repeat ((first | refine zI (by omega) ?_ | refine zE (by omega) (by omega) ?_ | refine zD (by omega) (by omega) ?_ | refine zY (by omega) ?_ | refine zN (by omega) ?_ | refine amin ?_ | refine amax ?_ | refine zU (by omega) ?_ | refine z8 (by omega) ?_ | refine zX (by omega) (by omega) ?_ | refine zR rfl ?_ | refine acellA ?_ | refine zB H b1 rfl ?_ | refine zC H b1 ?_ | refine zB H b2 rfl ?_ | refine zC H b2 ?_ | refine zB H b3 rfl ?_ | refine zC H b3 ?_ | refine zB H b4 rfl ?_ | refine zC H b4 ?_ | (apply zL H; (· repeat first | exact .h | apply AtK.t); (· rfl)) | (apply zA H; (· repeat first | exact .h | apply AtK.t)) | (apply zS H; (· repeat first | exact .h | apply AtK.t); (· rfl); (conv => whnf); clear H; intro τ H) | rw [List.length_map]); ((conv => whnf); (repeat ((first | with_reducible (first | refine zT rfl ?_ | refine zF rfl ?_ | refine zY rfl ?_) | refine zY (by decide) ?_ | refine zN (by decide) ?_ | with_reducible refine zQ ?_); (conv => whnf))))))
    rw [show ((m : Int) - (0 - 0)) = m by omega]
    refine ⟨by omega, by omega, by omega, .inr ?_⟩
    rw [show (List.drop (Int.toNat 0) (List.take (((([] : List AVal).length : Nat) : Int)).toNat ([] : List AVal))) = [] from rfl, Int.toNat_natCast]
    refine happnew H (fun e => h (by simpa using congrArg List.length e)) (by rw [List.length_replicate]; omega) (by rw [List.all_eq_true]; intro x hx; rw [List.eq_of_mem_replicate hx]; rfl) fun r τ2 H2 => ?_
    clear H
    have H := H2
    clear H2
    ((conv => whnf); (repeat ((first | with_reducible (first | refine zT rfl ?_ | refine zF rfl ?_ | refine zY rfl ?_) | refine zY (by decide) ?_ | refine zN (by decide) ?_ | with_reducible refine zQ ?_); (conv => whnf))))
    rw [show (([] : List AVal).length : Int) = 0 from rfl, List.length_replicate]
    ((conv => whnf); (repeat ((first | with_reducible (first | refine zT rfl ?_ | refine zF rfl ?_ | refine zY rfl ?_) | refine zY (by decide) ?_ | refine zN (by decide) ?_ | with_reducible refine zQ ?_); (conv => whnf))))
    (repeat ((first | refine zI (by omega) ?_ | refine zE (by omega) (by omega) ?_ | refine zD (by omega) (by omega) ?_ | refine zY (by omega) ?_ | refine zN (by omega) ?_ | refine amin ?_ | refine amax ?_ | refine zU (by omega) ?_ | refine z8 (by omega) ?_ | refine zX (by omega) (by omega) ?_ | refine zR rfl ?_ | refine acellA ?_ | refine zB H b1 rfl ?_ | refine zC H b1 ?_ | refine zB H b2 rfl ?_ | refine zC H b2 ?_ | refine zB H b3 rfl ?_ | refine zC H b3 ?_ | refine zB H b4 rfl ?_ | refine zC H b4 ?_ | (apply zL H; (· repeat first | exact .h | apply AtK.t); (· rfl)) | (apply zA H; (· repeat first | exact .h | apply AtK.t)) | (apply zS H; (· repeat first | exact .h | apply AtK.t); (· rfl); (conv => whnf); clear H; intro τ H) | rw [List.length_map]); ((conv => whnf); (repeat ((first | with_reducible (first | refine zT rfl ?_ | refine zF rfl ?_ | refine zY rfl ?_) | refine zY (by decide) ?_ | refine zN (by decide) ?_ | with_reducible refine zQ ?_); (conv => whnf))))))
    refine acut (by omega) (by omega) (by omega) ?_
    ((conv => whnf); (repeat ((first | with_reducible (first | refine zT rfl ?_ | refine zF rfl ?_ | refine zY rfl ?_) | refine zY (by decide) ?_ | refine zN (by decide) ?_ | with_reducible refine zQ ?_); (conv => whnf))))
    refine ⟨.inr (.inl ⟨rfl, ?_⟩)⟩
    ((conv => whnf); (repeat ((first | with_reducible (first | refine zT rfl ?_ | refine zF rfl ?_ | refine zY rfl ?_) | refine zY (by decide) ?_ | refine zN (by decide) ?_ | with_reducible refine zQ ?_); (conv => whnf))))
    (repeat ((first | refine zI (by omega) ?_ | refine zE (by omega) (by omega) ?_ | refine zD (by omega) (by omega) ?_ | refine zY (by omega) ?_ | refine zN (by omega) ?_ | refine amin ?_ | refine amax ?_ | refine zU (by omega) ?_ | refine z8 (by omega) ?_ | refine zX (by omega) (by omega) ?_ | refine zR rfl ?_ | refine acellA ?_ | refine zB H b1 rfl ?_ | refine zC H b1 ?_ | refine zB H b2 rfl ?_ | refine zC H b2 ?_ | refine zB H b3 rfl ?_ | refine zC H b3 ?_ | refine zB H b4 rfl ?_ | refine zC H b4 ?_ | (apply zL H; (· repeat first | exact .h | apply AtK.t); (· rfl)) | (apply zA H; (· repeat first | exact .h | apply AtK.t)) | (apply zS H; (· repeat first | exact .h | apply AtK.t); (· rfl); (conv => whnf); clear H; intro τ H) | rw [List.length_map]); ((conv => whnf); (repeat ((first | with_reducible (first | refine zT rfl ?_ | refine zF rfl ?_ | refine zY rfl ?_) | refine zY (by decide) ?_ | refine zN (by decide) ?_ | with_reducible refine zQ ?_); (conv => whnf))))))
    exact aret (VLe.refl _) (Sub.refl _) (.inr ⟨by omega, r, _, rfl, H⟩)
theorem happmT {σb σ : AHeap} {L : List HE} (H : Hp σb L σ) {k r s len bytes : Nat} {ys cs : List AVal} {K : AVal → AHeap → Prop} (hk : L[k]? = some (.o r (.cells cs))) (hc : len * s ≤ cs.length) (hl : (len + ys.length) * bytes ≤ 140737488355328) (ho : ys.all (okElem s) = true)
    (h : ∀ r', setLK L k (.o r' (.cells (cs.take (len * s) ++ ys.flatMap AVal.cells))) fun L' => ∀ σ', Hp σb L' σ' → K (.ms r' s 0 (len + ys.length)) σ') : AAppM σ r s 0 len bytes ys K := by
  refine aappmT (H.get hk) hc hl ho fun r' hr' => (setLK_spec (h r')).2 _ ?_
  refine Hp.back (List.getElem?_eq_some_iff.1 hk).1 ?_
  exact ((H.front hk).del_head).cons_o (del_none hr') _
abbrev txC (l : List Txt) : List AVal := (l.map txV).flatMap AVal.cells
theorem txC_len (l : List Txt) : (txC l).length = l.length * 2 := by
  induction l with
  | nil => rfl
  | cons x l ih =>
    show (AVal.cells (txV x) ++ txC l).length = _
    rw [List.length_append, ih, List.length_cons]; show 2 + _ = _; omega
theorem txC_append (a b : List Txt) : txC (a ++ b) = txC a ++ txC b := by unfold txC; rw [List.map_append, List.flatMap_append]
theorem tx_ok (l : List Txt) : (l.map txV).all (okElem 2) = true := by
  rw [List.all_eq_true]; intro x hx; obtain ⟨b, _, rfl⟩ := List.mem_map.1 hx; rfl
abbrev txl (t : Tok) (l : List Txt) : AVal := .slice 2 (l.map txV) t
set_option maxRecDepth 20000 in
theorem conc0 (a b : List Txt) (t u w : Tok) (σ : AHeap) (ha : a.length ≤ 1000) (hb : b.length ≤ 1000) : ACalls Try.prog i_slices_Concat_queue_text [.slice 1 [txl t a, txl u b] w] σ fun v σ' => (a ++ b = [] ∧ v = .slice 2 [] .full ∧ σ' = σ) ∨ ∃ r, v = .ms r 2 0 (a ++ b).length ∧ Hp σ [.o r (.cells (txC (a ++ b)))] σ' := by
  refine km_slices_Concat_queue_text rfl ?_
  have H := Hp.nil σ
  ((conv => whnf); (repeat ((first | with_reducible (first | refine zT rfl ?_ | refine zF rfl ?_ | refine zY rfl ?_) | refine zY (by decide) ?_ | refine zN (by decide) ?_ | with_reducible refine zQ ?_); (conv => whnf))))
  refine aloop (α := Nat × Int) (fun y => [(s11, i64v y.1), (s3, i64v y.2)]) (fun _ => σ) (fun y => (y.1 = 0 ∧ y.2 = 0) ∨ (y.1 = 1 ∧ y.2 = 0 + a.length) ∨ (y.1 = 2 ∧ y.2 = 0 + a.length + b.length)) (fun y => 2 - y.1) (0, 0) (.inl ⟨rfl, rfl⟩) (Sub.refl _) ?_ ?_
  · ((conv => whnf); (repeat ((first | with_reducible (first | refine zT rfl ?_ | refine zF rfl ?_ | refine zY rfl ?_) | refine zY (by decide) ?_ | refine zN (by decide) ?_ | with_reducible refine zQ ?_); (conv => whnf))))
    (repeat' first | with_reducible exact EnvLe.refl _ | (refine EnvLe.node ?_ (by first | exact Or.inl rfl | exact Or.inr (Or.inl rfl) | exact Or.inr (Or.inr ⟨nofun, VLe.slice _ _ _⟩)) ?_))
  rintro ⟨i, sz⟩ hi
  dsimp only at hi ⊢
  ((conv => whnf); (repeat ((first | with_reducible (first | refine zT rfl ?_ | refine zF rfl ?_ | refine zY rfl ?_) | refine zY (by decide) ?_ | refine zN (by decide) ?_ | with_reducible refine zQ ?_); (conv => whnf))))
  rw [show (([txl t a, txl u b] : List AVal).length : Int) = 2 from rfl]
  ((conv => whnf); (repeat ((first | with_reducible (first | refine zT rfl ?_ | refine zF rfl ?_ | refine zY rfl ?_) | refine zY (by decide) ?_ | refine zN (by decide) ?_ | with_reducible refine zQ ?_); (conv => whnf))))
  rcases hi with ⟨rfl, rfl⟩ | ⟨rfl, rfl⟩ | ⟨rfl, rfl⟩
  · (repeat ((first | refine zI (by omega) ?_ | refine zE (by omega) (by omega) ?_ | refine zD (by omega) (by omega) ?_ | refine zY (by omega) ?_ | refine zN (by omega) ?_ | refine amin ?_ | refine amax ?_ | refine zU (by omega) ?_ | refine z8 (by omega) ?_ | refine zX (by omega) (by omega) ?_ | refine zR rfl ?_ | refine acellA ?_ | refine zB H b1 rfl ?_ | refine zC H b1 ?_ | refine zB H b2 rfl ?_ | refine zC H b2 ?_ | refine zB H b3 rfl ?_ | refine zC H b3 ?_ | refine zB H b4 rfl ?_ | refine zC H b4 ?_ | (apply zL H; (· repeat first | exact .h | apply AtK.t); (· rfl)) | (apply zA H; (· repeat first | exact .h | apply AtK.t)) | (apply zS H; (· repeat first | exact .h | apply AtK.t); (· rfl); (conv => whnf); clear H; intro τ H) | rw [List.length_map]); ((conv => whnf); (repeat ((first | with_reducible (first | refine zT rfl ?_ | refine zF rfl ?_ | refine zY rfl ?_) | refine zY (by decide) ?_ | refine zN (by decide) ?_ | with_reducible refine zQ ?_); (conv => whnf))))))
    refine aget (x := txl t a) (by omega) rfl ?_
    ((conv => whnf); (repeat ((first | with_reducible (first | refine zT rfl ?_ | refine zF rfl ?_ | refine zY rfl ?_) | refine zY (by decide) ?_ | refine zN (by decide) ?_ | with_reducible refine zQ ?_); (conv => whnf))))
    (repeat ((first | refine zI (by omega) ?_ | refine zE (by omega) (by omega) ?_ | refine zD (by omega) (by omega) ?_ | refine zY (by omega) ?_ | refine zN (by omega) ?_ | refine amin ?_ | refine amax ?_ | refine zU (by omega) ?_ | refine z8 (by omega) ?_ | refine zX (by omega) (by omega) ?_ | refine zR rfl ?_ | refine acellA ?_ | refine zB H b1 rfl ?_ | refine zC H b1 ?_ | refine zB H b2 rfl ?_ | refine zC H b2 ?_ | refine zB H b3 rfl ?_ | refine zC H b3 ?_ | refine zB H b4 rfl ?_ | refine zC H b4 ?_ | (apply zL H; (· repeat first | exact .h | apply AtK.t); (· rfl)) | (apply zA H; (· repeat first | exact .h | apply AtK.t)) | (apply zS H; (· repeat first | exact .h | apply AtK.t); (· rfl); (conv => whnf); clear H; intro τ H) | rw [List.length_map]); ((conv => whnf); (repeat ((first | with_reducible (first | refine zT rfl ?_ | refine zF rfl ?_ | refine zY rfl ?_) | refine zY (by decide) ?_ | refine zN (by decide) ?_ | with_reducible refine zQ ?_); (conv => whnf))))))
    refine ⟨(1, 0 + a.length), .inr (.inl ⟨rfl, rfl⟩), by dsimp only; omega, Sub.refl _, ?_⟩
    ((conv => whnf); (repeat ((first | with_reducible (first | refine zT rfl ?_ | refine zF rfl ?_ | refine zY rfl ?_) | refine zY (by decide) ?_ | refine zN (by decide) ?_ | with_reducible refine zQ ?_); (conv => whnf))))
    (repeat' first | with_reducible exact EnvLe.refl _ | (refine EnvLe.node ?_ (by first | exact Or.inl rfl | exact Or.inr (Or.inl rfl) | exact Or.inr (Or.inr ⟨nofun, VLe.slice _ _ _⟩)) ?_))
  · (repeat ((first | refine zI (by omega) ?_ | refine zE (by omega) (by omega) ?_ | refine zD (by omega) (by omega) ?_ | refine zY (by omega) ?_ | refine zN (by omega) ?_ | refine amin ?_ | refine amax ?_ | refine zU (by omega) ?_ | refine z8 (by omega) ?_ | refine zX (by omega) (by omega) ?_ | refine zR rfl ?_ | refine acellA ?_ | refine zB H b1 rfl ?_ | refine zC H b1 ?_ | refine zB H b2 rfl ?_ | refine zC H b2 ?_ | refine zB H b3 rfl ?_ | refine zC H b3 ?_ | refine zB H b4 rfl ?_ | refine zC H b4 ?_ | (apply zL H; (· repeat first | exact .h | apply AtK.t); (· rfl)) | (apply zA H; (· repeat first | exact .h | apply AtK.t)) | (apply zS H; (· repeat first | exact .h | apply AtK.t); (· rfl); (conv => whnf); clear H; intro τ H) | rw [List.length_map]); ((conv => whnf); (repeat ((first | with_reducible (first | refine zT rfl ?_ | refine zF rfl ?_ | refine zY rfl ?_) | refine zY (by decide) ?_ | refine zN (by decide) ?_ | with_reducible refine zQ ?_); (conv => whnf))))))
    refine aget (x := txl u b) (by omega) rfl ?_
    ((conv => whnf); (repeat ((first | with_reducible (first | refine zT rfl ?_ | refine zF rfl ?_ | refine zY rfl ?_) | refine zY (by decide) ?_ | refine zN (by decide) ?_ | with_reducible refine zQ ?_); (conv => whnf))))
    (repeat ((first | refine zI (by omega) ?_ | refine zE (by omega) (by omega) ?_ | refine zD (by omega) (by omega) ?_ | refine zY (by omega) ?_ | refine zN (by omega) ?_ | refine amin ?_ | refine amax ?_ | refine zU (by omega) ?_ | refine z8 (by omega) ?_ | refine zX (by omega) (by omega) ?_ | refine zR rfl ?_ | refine acellA ?_ | refine zB H b1 rfl ?_ | refine zC H b1 ?_ | refine zB H b2 rfl ?_ | refine zC H b2 ?_ | refine zB H b3 rfl ?_ | refine zC H b3 ?_ | refine zB H b4 rfl ?_ | refine zC H b4 ?_ | (apply zL H; (· repeat first | exact .h | apply AtK.t); (· rfl)) | (apply zA H; (· repeat first | exact .h | apply AtK.t)) | (apply zS H; (· repeat first | exact .h | apply AtK.t); (· rfl); (conv => whnf); clear H; intro τ H) | rw [List.length_map]); ((conv => whnf); (repeat ((first | with_reducible (first | refine zT rfl ?_ | refine zF rfl ?_ | refine zY rfl ?_) | refine zY (by decide) ?_ | refine zN (by decide) ?_ | with_reducible refine zQ ?_); (conv => whnf))))))
    refine ⟨(2, 0 + a.length + b.length), .inr (.inr ⟨rfl, rfl⟩), by dsimp only; omega, Sub.refl _, ?_⟩
    ((conv => whnf); (repeat ((first | with_reducible (first | refine zT rfl ?_ | refine zF rfl ?_ | refine zY rfl ?_) | refine zY (by decide) ?_ | refine zN (by decide) ?_ | with_reducible refine zQ ?_); (conv => whnf))))
    (repeat' first | with_reducible exact EnvLe.refl _ | (refine EnvLe.node ?_ (by first | exact Or.inl rfl | exact Or.inr (Or.inl rfl) | exact Or.inr (Or.inr ⟨nofun, VLe.slice _ _ _⟩)) ?_))
  · (repeat ((first | refine zI (by omega) ?_ | refine zE (by omega) (by omega) ?_ | refine zD (by omega) (by omega) ?_ | refine zY (by omega) ?_ | refine zN (by omega) ?_ | refine amin ?_ | refine amax ?_ | refine zU (by omega) ?_ | refine z8 (by omega) ?_ | refine zX (by omega) (by omega) ?_ | refine zR rfl ?_ | refine acellA ?_ | refine zB H b1 rfl ?_ | refine zC H b1 ?_ | refine zB H b2 rfl ?_ | refine zC H b2 ?_ | refine zB H b3 rfl ?_ | refine zC H b3 ?_ | refine zB H b4 rfl ?_ | refine zC H b4 ?_ | (apply zL H; (· repeat first | exact .h | apply AtK.t); (· rfl)) | (apply zA H; (· repeat first | exact .h | apply AtK.t)) | (apply zS H; (· repeat first | exact .h | apply AtK.t); (· rfl); (conv => whnf); clear H; intro τ H) | rw [List.length_map]); ((conv => whnf); (repeat ((first | with_reducible (first | refine zT rfl ?_ | refine zF rfl ?_ | refine zY rfl ?_) | refine zY (by decide) ?_ | refine zN (by decide) ?_ | with_reducible refine zQ ?_); (conv => whnf))))))
    rw [show (0 : Int) + a.length + b.length = ((a.length + b.length : Nat) : Int) by omega]
    refine acall (grow0 (a.length + b.length) σ (by omega)) ?_
    rintro _ τ (⟨h0, rfl, rfl⟩ | ⟨h0, r, cs, rfl, N⟩)
    · obtain rfl : a = [] := List.length_eq_zero_iff.1 (by omega)
      obtain rfl : b = [] := List.length_eq_zero_iff.1 (by omega)
      refine ⟨?_, Ext.refl _⟩
      ((conv => whnf); (repeat ((first | with_reducible (first | refine zT rfl ?_ | refine zF rfl ?_ | refine zY rfl ?_) | refine zY (by decide) ?_ | refine zN (by decide) ?_ | with_reducible refine zQ ?_); (conv => whnf))))
      (repeat ((first | refine zI (by omega) ?_ | refine zE (by omega) (by omega) ?_ | refine zD (by omega) (by omega) ?_ | refine zY (by omega) ?_ | refine zN (by omega) ?_ | refine amin ?_ | refine amax ?_ | refine zU (by omega) ?_ | refine z8 (by omega) ?_ | refine zX (by omega) (by omega) ?_ | refine zR rfl ?_ | refine acellA ?_ | refine zB H b1 rfl ?_ | refine zC H b1 ?_ | refine zB H b2 rfl ?_ | refine zC H b2 ?_ | refine zB H b3 rfl ?_ | refine zC H b3 ?_ | refine zB H b4 rfl ?_ | refine zC H b4 ?_ | (apply zL H; (· repeat first | exact .h | apply AtK.t); (· rfl)) | (apply zA H; (· repeat first | exact .h | apply AtK.t)) | (apply zS H; (· repeat first | exact .h | apply AtK.t); (· rfl); (conv => whnf); clear H; intro τ H) | rw [List.length_map]); ((conv => whnf); (repeat ((first | with_reducible (first | refine zT rfl ?_ | refine zF rfl ?_ | refine zY rfl ?_) | refine zY (by decide) ?_ | refine zN (by decide) ?_ | with_reducible refine zQ ?_); (conv => whnf))))))
      refine aloop (α := Nat) (fun i => [(s27, i64v i), (s6, .slice 2 [] .full)]) (fun _ => τ) (fun i => i ≤ 2) (fun i => 2 - i) 0 (Nat.zero_le _) (Sub.refl _) ?_ ?_
      · ((conv => whnf); (repeat ((first | with_reducible (first | refine zT rfl ?_ | refine zF rfl ?_ | refine zY rfl ?_) | refine zY (by decide) ?_ | refine zN (by decide) ?_ | with_reducible refine zQ ?_); (conv => whnf))))
        (repeat' first | with_reducible exact EnvLe.refl _ | (refine EnvLe.node ?_ (by first | exact Or.inl rfl | exact Or.inr (Or.inl rfl) | exact Or.inr (Or.inr ⟨nofun, VLe.slice _ _ _⟩)) ?_))
      rintro i hi
      ((conv => whnf); (repeat ((first | with_reducible (first | refine zT rfl ?_ | refine zF rfl ?_ | refine zY rfl ?_) | refine zY (by decide) ?_ | refine zN (by decide) ?_ | with_reducible refine zQ ?_); (conv => whnf))))
      rw [show (([txl t [], txl u []] : List AVal).length : Int) = 2 from rfl]
      ((conv => whnf); (repeat ((first | with_reducible (first | refine zT rfl ?_ | refine zF rfl ?_ | refine zY rfl ?_) | refine zY (by decide) ?_ | refine zN (by decide) ?_ | with_reducible refine zQ ?_); (conv => whnf))))
      rcases (show i = 0 ∨ i = 1 ∨ i = 2 by omega) with rfl | rfl | rfl
      · (repeat ((first | refine zI (by omega) ?_ | refine zE (by omega) (by omega) ?_ | refine zD (by omega) (by omega) ?_ | refine zY (by omega) ?_ | refine zN (by omega) ?_ | refine amin ?_ | refine amax ?_ | refine zU (by omega) ?_ | refine z8 (by omega) ?_ | refine zX (by omega) (by omega) ?_ | refine zR rfl ?_ | refine acellA ?_ | refine zB H b1 rfl ?_ | refine zC H b1 ?_ | refine zB H b2 rfl ?_ | refine zC H b2 ?_ | refine zB H b3 rfl ?_ | refine zC H b3 ?_ | refine zB H b4 rfl ?_ | refine zC H b4 ?_ | (apply zL H; (· repeat first | exact .h | apply AtK.t); (· rfl)) | (apply zA H; (· repeat first | exact .h | apply AtK.t)) | (apply zS H; (· repeat first | exact .h | apply AtK.t); (· rfl); (conv => whnf); clear H; intro τ H) | rw [List.length_map]); ((conv => whnf); (repeat ((first | with_reducible (first | refine zT rfl ?_ | refine zF rfl ?_ | refine zY rfl ?_) | refine zY (by decide) ?_ | refine zN (by decide) ?_ | with_reducible refine zQ ?_); (conv => whnf))))))
        refine aget (x := txl t []) (by omega) rfl ?_
        ((conv => whnf); (repeat ((first | with_reducible (first | refine zT rfl ?_ | refine zF rfl ?_ | refine zY rfl ?_) | refine zY (by decide) ?_ | refine zN (by decide) ?_ | with_reducible refine zQ ?_); (conv => whnf))))
        (repeat ((first | refine zI (by omega) ?_ | refine zE (by omega) (by omega) ?_ | refine zD (by omega) (by omega) ?_ | refine zY (by omega) ?_ | refine zN (by omega) ?_ | refine amin ?_ | refine amax ?_ | refine zU (by omega) ?_ | refine z8 (by omega) ?_ | refine zX (by omega) (by omega) ?_ | refine zR rfl ?_ | refine acellA ?_ | refine zB H b1 rfl ?_ | refine zC H b1 ?_ | refine zB H b2 rfl ?_ | refine zC H b2 ?_ | refine zB H b3 rfl ?_ | refine zC H b3 ?_ | refine zB H b4 rfl ?_ | refine zC H b4 ?_ | (apply zL H; (· repeat first | exact .h | apply AtK.t); (· rfl)) | (apply zA H; (· repeat first | exact .h | apply AtK.t)) | (apply zS H; (· repeat first | exact .h | apply AtK.t); (· rfl); (conv => whnf); clear H; intro τ H) | rw [List.length_map]); ((conv => whnf); (repeat ((first | with_reducible (first | refine zT rfl ?_ | refine zF rfl ?_ | refine zY rfl ?_) | refine zY (by decide) ?_ | refine zN (by decide) ?_ | with_reducible refine zQ ?_); (conv => whnf))))))
        refine aappnew_none (by simp) ?_
        ((conv => whnf); (repeat ((first | with_reducible (first | refine zT rfl ?_ | refine zF rfl ?_ | refine zY rfl ?_) | refine zY (by decide) ?_ | refine zN (by decide) ?_ | with_reducible refine zQ ?_); (conv => whnf))))
        (repeat ((first | refine zI (by omega) ?_ | refine zE (by omega) (by omega) ?_ | refine zD (by omega) (by omega) ?_ | refine zY (by omega) ?_ | refine zN (by omega) ?_ | refine amin ?_ | refine amax ?_ | refine zU (by omega) ?_ | refine z8 (by omega) ?_ | refine zX (by omega) (by omega) ?_ | refine zR rfl ?_ | refine acellA ?_ | refine zB H b1 rfl ?_ | refine zC H b1 ?_ | refine zB H b2 rfl ?_ | refine zC H b2 ?_ | refine zB H b3 rfl ?_ | refine zC H b3 ?_ | refine zB H b4 rfl ?_ | refine zC H b4 ?_ | (apply zL H; (· repeat first | exact .h | apply AtK.t); (· rfl)) | (apply zA H; (· repeat first | exact .h | apply AtK.t)) | (apply zS H; (· repeat first | exact .h | apply AtK.t); (· rfl); (conv => whnf); clear H; intro τ H) | rw [List.length_map]); ((conv => whnf); (repeat ((first | with_reducible (first | refine zT rfl ?_ | refine zF rfl ?_ | refine zY rfl ?_) | refine zY (by decide) ?_ | refine zN (by decide) ?_ | with_reducible refine zQ ?_); (conv => whnf))))))
        refine ⟨1, by omega, by omega, Sub.refl _, ?_⟩
        ((conv => whnf); (repeat ((first | with_reducible (first | refine zT rfl ?_ | refine zF rfl ?_ | refine zY rfl ?_) | refine zY (by decide) ?_ | refine zN (by decide) ?_ | with_reducible refine zQ ?_); (conv => whnf))))
        (repeat' first | with_reducible exact EnvLe.refl _ | (refine EnvLe.node ?_ (by first | exact Or.inl rfl | exact Or.inr (Or.inl rfl) | exact Or.inr (Or.inr ⟨nofun, VLe.slice _ _ _⟩)) ?_))
      · (repeat ((first | refine zI (by omega) ?_ | refine zE (by omega) (by omega) ?_ | refine zD (by omega) (by omega) ?_ | refine zY (by omega) ?_ | refine zN (by omega) ?_ | refine amin ?_ | refine amax ?_ | refine zU (by omega) ?_ | refine z8 (by omega) ?_ | refine zX (by omega) (by omega) ?_ | refine zR rfl ?_ | refine acellA ?_ | refine zB H b1 rfl ?_ | refine zC H b1 ?_ | refine zB H b2 rfl ?_ | refine zC H b2 ?_ | refine zB H b3 rfl ?_ | refine zC H b3 ?_ | refine zB H b4 rfl ?_ | refine zC H b4 ?_ | (apply zL H; (· repeat first | exact .h | apply AtK.t); (· rfl)) | (apply zA H; (· repeat first | exact .h | apply AtK.t)) | (apply zS H; (· repeat first | exact .h | apply AtK.t); (· rfl); (conv => whnf); clear H; intro τ H) | rw [List.length_map]); ((conv => whnf); (repeat ((first | with_reducible (first | refine zT rfl ?_ | refine zF rfl ?_ | refine zY rfl ?_) | refine zY (by decide) ?_ | refine zN (by decide) ?_ | with_reducible refine zQ ?_); (conv => whnf))))))
        refine aget (x := txl u []) (by omega) rfl ?_
        ((conv => whnf); (repeat ((first | with_reducible (first | refine zT rfl ?_ | refine zF rfl ?_ | refine zY rfl ?_) | refine zY (by decide) ?_ | refine zN (by decide) ?_ | with_reducible refine zQ ?_); (conv => whnf))))
        (repeat ((first | refine zI (by omega) ?_ | refine zE (by omega) (by omega) ?_ | refine zD (by omega) (by omega) ?_ | refine zY (by omega) ?_ | refine zN (by omega) ?_ | refine amin ?_ | refine amax ?_ | refine zU (by omega) ?_ | refine z8 (by omega) ?_ | refine zX (by omega) (by omega) ?_ | refine zR rfl ?_ | refine acellA ?_ | refine zB H b1 rfl ?_ | refine zC H b1 ?_ | refine zB H b2 rfl ?_ | refine zC H b2 ?_ | refine zB H b3 rfl ?_ | refine zC H b3 ?_ | refine zB H b4 rfl ?_ | refine zC H b4 ?_ | (apply zL H; (· repeat first | exact .h | apply AtK.t); (· rfl)) | (apply zA H; (· repeat first | exact .h | apply AtK.t)) | (apply zS H; (· repeat first | exact .h | apply AtK.t); (· rfl); (conv => whnf); clear H; intro τ H) | rw [List.length_map]); ((conv => whnf); (repeat ((first | with_reducible (first | refine zT rfl ?_ | refine zF rfl ?_ | refine zY rfl ?_) | refine zY (by decide) ?_ | refine zN (by decide) ?_ | with_reducible refine zQ ?_); (conv => whnf))))))
        refine aappnew_none (by simp) ?_
        ((conv => whnf); (repeat ((first | with_reducible (first | refine zT rfl ?_ | refine zF rfl ?_ | refine zY rfl ?_) | refine zY (by decide) ?_ | refine zN (by decide) ?_ | with_reducible refine zQ ?_); (conv => whnf))))
        (repeat ((first | refine zI (by omega) ?_ | refine zE (by omega) (by omega) ?_ | refine zD (by omega) (by omega) ?_ | refine zY (by omega) ?_ | refine zN (by omega) ?_ | refine amin ?_ | refine amax ?_ | refine zU (by omega) ?_ | refine z8 (by omega) ?_ | refine zX (by omega) (by omega) ?_ | refine zR rfl ?_ | refine acellA ?_ | refine zB H b1 rfl ?_ | refine zC H b1 ?_ | refine zB H b2 rfl ?_ | refine zC H b2 ?_ | refine zB H b3 rfl ?_ | refine zC H b3 ?_ | refine zB H b4 rfl ?_ | refine zC H b4 ?_ | (apply zL H; (· repeat first | exact .h | apply AtK.t); (· rfl)) | (apply zA H; (· repeat first | exact .h | apply AtK.t)) | (apply zS H; (· repeat first | exact .h | apply AtK.t); (· rfl); (conv => whnf); clear H; intro τ H) | rw [List.length_map]); ((conv => whnf); (repeat ((first | with_reducible (first | refine zT rfl ?_ | refine zF rfl ?_ | refine zY rfl ?_) | refine zY (by decide) ?_ | refine zN (by decide) ?_ | with_reducible refine zQ ?_); (conv => whnf))))))
        refine ⟨2, by omega, by omega, Sub.refl _, ?_⟩
        ((conv => whnf); (repeat ((first | with_reducible (first | refine zT rfl ?_ | refine zF rfl ?_ | refine zY rfl ?_) | refine zY (by decide) ?_ | refine zN (by decide) ?_ | with_reducible refine zQ ?_); (conv => whnf))))
        (repeat' first | with_reducible exact EnvLe.refl _ | (refine EnvLe.node ?_ (by first | exact Or.inl rfl | exact Or.inr (Or.inl rfl) | exact Or.inr (Or.inr ⟨nofun, VLe.slice _ _ _⟩)) ?_))
      · (repeat ((first | refine zI (by omega) ?_ | refine zE (by omega) (by omega) ?_ | refine zD (by omega) (by omega) ?_ | refine zY (by omega) ?_ | refine zN (by omega) ?_ | refine amin ?_ | refine amax ?_ | refine zU (by omega) ?_ | refine z8 (by omega) ?_ | refine zX (by omega) (by omega) ?_ | refine zR rfl ?_ | refine acellA ?_ | refine zB H b1 rfl ?_ | refine zC H b1 ?_ | refine zB H b2 rfl ?_ | refine zC H b2 ?_ | refine zB H b3 rfl ?_ | refine zC H b3 ?_ | refine zB H b4 rfl ?_ | refine zC H b4 ?_ | (apply zL H; (· repeat first | exact .h | apply AtK.t); (· rfl)) | (apply zA H; (· repeat first | exact .h | apply AtK.t)) | (apply zS H; (· repeat first | exact .h | apply AtK.t); (· rfl); (conv => whnf); clear H; intro τ H) | rw [List.length_map]); ((conv => whnf); (repeat ((first | with_reducible (first | refine zT rfl ?_ | refine zF rfl ?_ | refine zY rfl ?_) | refine zY (by decide) ?_ | refine zN (by decide) ?_ | with_reducible refine zQ ?_); (conv => whnf))))))
        exact aret_same (.inl ⟨rfl, rfl, rfl⟩)
    · refine ⟨?_, N.ext⟩
      clear H
      have H := N
      clear N
      ((conv => whnf); (repeat ((first | with_reducible (first | refine zT rfl ?_ | refine zF rfl ?_ | refine zY rfl ?_) | refine zY (by decide) ?_ | refine zN (by decide) ?_ | with_reducible refine zQ ?_); (conv => whnf))))
      (repeat ((first | refine zI (by omega) ?_ | refine zE (by omega) (by omega) ?_ | refine zD (by omega) (by omega) ?_ | refine zY (by omega) ?_ | refine zN (by omega) ?_ | refine amin ?_ | refine amax ?_ | refine zU (by omega) ?_ | refine z8 (by omega) ?_ | refine zX (by omega) (by omega) ?_ | refine zR rfl ?_ | refine acellA ?_ | refine zB H b1 rfl ?_ | refine zC H b1 ?_ | refine zB H b2 rfl ?_ | refine zC H b2 ?_ | refine zB H b3 rfl ?_ | refine zC H b3 ?_ | refine zB H b4 rfl ?_ | refine zC H b4 ?_ | (apply zL H; (· repeat first | exact .h | apply AtK.t); (· rfl)) | (apply zA H; (· repeat first | exact .h | apply AtK.t)) | (apply zS H; (· repeat first | exact .h | apply AtK.t); (· rfl); (conv => whnf); clear H; intro τ H) | rw [List.length_map]); ((conv => whnf); (repeat ((first | with_reducible (first | refine zT rfl ?_ | refine zF rfl ?_ | refine zY rfl ?_) | refine zY (by decide) ?_ | refine zN (by decide) ?_ | with_reducible refine zQ ?_); (conv => whnf))))))
      refine aloop (α := Nat × AVal × AHeap) (fun y => [(s27, i64v y.1), (s6, y.2.1)]) (fun y => y.2.2) (fun y => ∃ r cs, Hp σ [.o r (.cells cs)] y.2.2 ∧ ((y.1 = 0 ∧ y.2.1 = .ms r 2 0 0) ∨ (y.1 = 1 ∧ y.2.1 = .ms r 2 0 (0 + a.length) ∧ cs = txC a) ∨ (y.1 = 2 ∧ y.2.1 = .ms r 2 0 (0 + a.length + b.length) ∧ cs = txC a ++ txC b))) (fun y => 2 - y.1) (0, .ms r 2 0 0, τ) ⟨r, cs, H, .inl ⟨rfl, rfl⟩⟩ (Sub.refl _) ?_ ?_
      · ((conv => whnf); (repeat ((first | with_reducible (first | refine zT rfl ?_ | refine zF rfl ?_ | refine zY rfl ?_) | refine zY (by decide) ?_ | refine zN (by decide) ?_ | with_reducible refine zQ ?_); (conv => whnf))))
        (repeat' first | with_reducible exact EnvLe.refl _ | (refine EnvLe.node ?_ (by first | exact Or.inl rfl | exact Or.inr (Or.inl rfl) | exact Or.inr (Or.inr ⟨nofun, VLe.slice _ _ _⟩)) ?_))
      clear H
      rintro ⟨i, v, τ⟩ ⟨r, cs, H, hi⟩
      dsimp only at H hi ⊢
      ((conv => whnf); (repeat ((first | with_reducible (first | refine zT rfl ?_ | refine zF rfl ?_ | refine zY rfl ?_) | refine zY (by decide) ?_ | refine zN (by decide) ?_ | with_reducible refine zQ ?_); (conv => whnf))))
      rw [show (([txl t a, txl u b] : List AVal).length : Int) = 2 from rfl]
      ((conv => whnf); (repeat ((first | with_reducible (first | refine zT rfl ?_ | refine zF rfl ?_ | refine zY rfl ?_) | refine zY (by decide) ?_ | refine zN (by decide) ?_ | with_reducible refine zQ ?_); (conv => whnf))))
      rcases hi with ⟨rfl, rfl⟩ | ⟨rfl, rfl, rfl⟩ | ⟨rfl, rfl, rfl⟩
      · (repeat ((first | refine zI (by omega) ?_ | refine zE (by omega) (by omega) ?_ | refine zD (by omega) (by omega) ?_ | refine zY (by omega) ?_ | refine zN (by omega) ?_ | refine amin ?_ | refine amax ?_ | refine zU (by omega) ?_ | refine z8 (by omega) ?_ | refine zX (by omega) (by omega) ?_ | refine zR rfl ?_ | refine acellA ?_ | refine zB H b1 rfl ?_ | refine zC H b1 ?_ | refine zB H b2 rfl ?_ | refine zC H b2 ?_ | refine zB H b3 rfl ?_ | refine zC H b3 ?_ | refine zB H b4 rfl ?_ | refine zC H b4 ?_ | (apply zL H; (· repeat first | exact .h | apply AtK.t); (· rfl)) | (apply zA H; (· repeat first | exact .h | apply AtK.t)) | (apply zS H; (· repeat first | exact .h | apply AtK.t); (· rfl); (conv => whnf); clear H; intro τ H) | rw [List.length_map]); ((conv => whnf); (repeat ((first | with_reducible (first | refine zT rfl ?_ | refine zF rfl ?_ | refine zY rfl ?_) | refine zY (by decide) ?_ | refine zN (by decide) ?_ | with_reducible refine zQ ?_); (conv => whnf))))))
        refine aget (x := txl t a) (by omega) rfl ?_
        ((conv => whnf); (repeat ((first | with_reducible (first | refine zT rfl ?_ | refine zF rfl ?_ | refine zY rfl ?_) | refine zY (by decide) ?_ | refine zN (by decide) ?_ | with_reducible refine zQ ?_); (conv => whnf))))
        (repeat ((first | refine zI (by omega) ?_ | refine zE (by omega) (by omega) ?_ | refine zD (by omega) (by omega) ?_ | refine zY (by omega) ?_ | refine zN (by omega) ?_ | refine amin ?_ | refine amax ?_ | refine zU (by omega) ?_ | refine z8 (by omega) ?_ | refine zX (by omega) (by omega) ?_ | refine zR rfl ?_ | refine acellA ?_ | refine zB H b1 rfl ?_ | refine zC H b1 ?_ | refine zB H b2 rfl ?_ | refine zC H b2 ?_ | refine zB H b3 rfl ?_ | refine zC H b3 ?_ | refine zB H b4 rfl ?_ | refine zC H b4 ?_ | (apply zL H; (· repeat first | exact .h | apply AtK.t); (· rfl)) | (apply zA H; (· repeat first | exact .h | apply AtK.t)) | (apply zS H; (· repeat first | exact .h | apply AtK.t); (· rfl); (conv => whnf); clear H; intro τ H) | rw [List.length_map]); ((conv => whnf); (repeat ((first | with_reducible (first | refine zT rfl ?_ | refine zF rfl ?_ | refine zY rfl ?_) | refine zY (by decide) ?_ | refine zN (by decide) ?_ | with_reducible refine zQ ?_); (conv => whnf))))))
        refine happmT H (k := 0) rfl (by simp) (by rw [List.length_map]; omega) (tx_ok a) fun r2 τ2 H2 => ?_
        rw [List.length_map]
        ((conv => whnf); (repeat ((first | with_reducible (first | refine zT rfl ?_ | refine zF rfl ?_ | refine zY rfl ?_) | refine zY (by decide) ?_ | refine zN (by decide) ?_ | with_reducible refine zQ ?_); (conv => whnf))))
        (repeat ((first | refine zI (by omega) ?_ | refine zE (by omega) (by omega) ?_ | refine zD (by omega) (by omega) ?_ | refine zY (by omega) ?_ | refine zN (by omega) ?_ | refine amin ?_ | refine amax ?_ | refine zU (by omega) ?_ | refine z8 (by omega) ?_ | refine zX (by omega) (by omega) ?_ | refine zR rfl ?_ | refine acellA ?_ | refine zB H b1 rfl ?_ | refine zC H b1 ?_ | refine zB H b2 rfl ?_ | refine zC H b2 ?_ | refine zB H b3 rfl ?_ | refine zC H b3 ?_ | refine zB H b4 rfl ?_ | refine zC H b4 ?_ | (apply zL H; (· repeat first | exact .h | apply AtK.t); (· rfl)) | (apply zA H; (· repeat first | exact .h | apply AtK.t)) | (apply zS H; (· repeat first | exact .h | apply AtK.t); (· rfl); (conv => whnf); clear H; intro τ H) | rw [List.length_map]); ((conv => whnf); (repeat ((first | with_reducible (first | refine zT rfl ?_ | refine zF rfl ?_ | refine zY rfl ?_) | refine zY (by decide) ?_ | refine zN (by decide) ?_ | with_reducible refine zQ ?_); (conv => whnf))))))
        refine ⟨(1, .ms r2 2 0 (0 + a.length), τ2), ⟨r2, txC a, by simpa using H2, .inr (.inl ⟨rfl, rfl, rfl⟩)⟩, by dsimp only; omega, Sub.refl _, ?_⟩
        ((conv => whnf); (repeat ((first | with_reducible (first | refine zT rfl ?_ | refine zF rfl ?_ | refine zY rfl ?_) | refine zY (by decide) ?_ | refine zN (by decide) ?_ | with_reducible refine zQ ?_); (conv => whnf))))
        (repeat' first | with_reducible exact EnvLe.refl _ | (refine EnvLe.node ?_ (by first | exact Or.inl rfl | exact Or.inr (Or.inl rfl) | exact Or.inr (Or.inr ⟨nofun, VLe.slice _ _ _⟩)) ?_))
      · (repeat ((first | refine zI (by omega) ?_ | refine zE (by omega) (by omega) ?_ | refine zD (by omega) (by omega) ?_ | refine zY (by omega) ?_ | refine zN (by omega) ?_ | refine amin ?_ | refine amax ?_ | refine zU (by omega) ?_ | refine z8 (by omega) ?_ | refine zX (by omega) (by omega) ?_ | refine zR rfl ?_ | refine acellA ?_ | refine zB H b1 rfl ?_ | refine zC H b1 ?_ | refine zB H b2 rfl ?_ | refine zC H b2 ?_ | refine zB H b3 rfl ?_ | refine zC H b3 ?_ | refine zB H b4 rfl ?_ | refine zC H b4 ?_ | (apply zL H; (· repeat first | exact .h | apply AtK.t); (· rfl)) | (apply zA H; (· repeat first | exact .h | apply AtK.t)) | (apply zS H; (· repeat first | exact .h | apply AtK.t); (· rfl); (conv => whnf); clear H; intro τ H) | rw [List.length_map]); ((conv => whnf); (repeat ((first | with_reducible (first | refine zT rfl ?_ | refine zF rfl ?_ | refine zY rfl ?_) | refine zY (by decide) ?_ | refine zN (by decide) ?_ | with_reducible refine zQ ?_); (conv => whnf))))))
        refine aget (x := txl u b) (by omega) rfl ?_
        ((conv => whnf); (repeat ((first | with_reducible (first | refine zT rfl ?_ | refine zF rfl ?_ | refine zY rfl ?_) | refine zY (by decide) ?_ | refine zN (by decide) ?_ | with_reducible refine zQ ?_); (conv => whnf))))
        (repeat ((first | refine zI (by omega) ?_ | refine zE (by omega) (by omega) ?_ | refine zD (by omega) (by omega) ?_ | refine zY (by omega) ?_ | refine zN (by omega) ?_ | refine amin ?_ | refine amax ?_ | refine zU (by omega) ?_ | refine z8 (by omega) ?_ | refine zX (by omega) (by omega) ?_ | refine zR rfl ?_ | refine acellA ?_ | refine zB H b1 rfl ?_ | refine zC H b1 ?_ | refine zB H b2 rfl ?_ | refine zC H b2 ?_ | refine zB H b3 rfl ?_ | refine zC H b3 ?_ | refine zB H b4 rfl ?_ | refine zC H b4 ?_ | (apply zL H; (· repeat first | exact .h | apply AtK.t); (· rfl)) | (apply zA H; (· repeat first | exact .h | apply AtK.t)) | (apply zS H; (· repeat first | exact .h | apply AtK.t); (· rfl); (conv => whnf); clear H; intro τ H) | rw [List.length_map]); ((conv => whnf); (repeat ((first | with_reducible (first | refine zT rfl ?_ | refine zF rfl ?_ | refine zY rfl ?_) | refine zY (by decide) ?_ | refine zN (by decide) ?_ | with_reducible refine zQ ?_); (conv => whnf))))))
        have hl := txC_len a
        refine happmT H (k := 0) rfl (by omega) (by rw [List.length_map]; omega) (tx_ok b) fun r2 τ2 H2 => ?_
        rw [List.length_map]
        rw [List.take_of_length_le (by omega)] at H2
        ((conv => whnf); (repeat ((first | with_reducible (first | refine zT rfl ?_ | refine zF rfl ?_ | refine zY rfl ?_) | refine zY (by decide) ?_ | refine zN (by decide) ?_ | with_reducible refine zQ ?_); (conv => whnf))))
        (repeat ((first | refine zI (by omega) ?_ | refine zE (by omega) (by omega) ?_ | refine zD (by omega) (by omega) ?_ | refine zY (by omega) ?_ | refine zN (by omega) ?_ | refine amin ?_ | refine amax ?_ | refine zU (by omega) ?_ | refine z8 (by omega) ?_ | refine zX (by omega) (by omega) ?_ | refine zR rfl ?_ | refine acellA ?_ | refine zB H b1 rfl ?_ | refine zC H b1 ?_ | refine zB H b2 rfl ?_ | refine zC H b2 ?_ | refine zB H b3 rfl ?_ | refine zC H b3 ?_ | refine zB H b4 rfl ?_ | refine zC H b4 ?_ | (apply zL H; (· repeat first | exact .h | apply AtK.t); (· rfl)) | (apply zA H; (· repeat first | exact .h | apply AtK.t)) | (apply zS H; (· repeat first | exact .h | apply AtK.t); (· rfl); (conv => whnf); clear H; intro τ H) | rw [List.length_map]); ((conv => whnf); (repeat ((first | with_reducible (first | refine zT rfl ?_ | refine zF rfl ?_ | refine zY rfl ?_) | refine zY (by decide) ?_ | refine zN (by decide) ?_ | with_reducible refine zQ ?_); (conv => whnf))))))
        refine ⟨(2, .ms r2 2 0 (0 + a.length + b.length), τ2), ⟨r2, txC a ++ txC b, H2, .inr (.inr ⟨rfl, rfl, rfl⟩)⟩, by dsimp only; omega, Sub.refl _, ?_⟩
        ((conv => whnf); (repeat ((first | with_reducible (first | refine zT rfl ?_ | refine zF rfl ?_ | refine zY rfl ?_) | refine zY (by decide) ?_ | refine zN (by decide) ?_ | with_reducible refine zQ ?_); (conv => whnf))))
        (repeat' first | with_reducible exact EnvLe.refl _ | (refine EnvLe.node ?_ (by first | exact Or.inl rfl | exact Or.inr (Or.inl rfl) | exact Or.inr (Or.inr ⟨nofun, VLe.slice _ _ _⟩)) ?_))
      · (repeat ((first | refine zI (by omega) ?_ | refine zE (by omega) (by omega) ?_ | refine zD (by omega) (by omega) ?_ | refine zY (by omega) ?_ | refine zN (by omega) ?_ | refine amin ?_ | refine amax ?_ | refine zU (by omega) ?_ | refine z8 (by omega) ?_ | refine zX (by omega) (by omega) ?_ | refine zR rfl ?_ | refine acellA ?_ | refine zB H b1 rfl ?_ | refine zC H b1 ?_ | refine zB H b2 rfl ?_ | refine zC H b2 ?_ | refine zB H b3 rfl ?_ | refine zC H b3 ?_ | refine zB H b4 rfl ?_ | refine zC H b4 ?_ | (apply zL H; (· repeat first | exact .h | apply AtK.t); (· rfl)) | (apply zA H; (· repeat first | exact .h | apply AtK.t)) | (apply zS H; (· repeat first | exact .h | apply AtK.t); (· rfl); (conv => whnf); clear H; intro τ H) | rw [List.length_map]); ((conv => whnf); (repeat ((first | with_reducible (first | refine zT rfl ?_ | refine zF rfl ?_ | refine zY rfl ?_) | refine zY (by decide) ?_ | refine zN (by decide) ?_ | with_reducible refine zQ ?_); (conv => whnf))))))
        refine aret (VLe.refl _) (Sub.refl _) (.inr ⟨r, by rw [List.length_append, Nat.zero_add], by rw [txC_append]; exact H⟩)
/-- Both, as one slice. -/
theorem conc (a b : List Txt) (t u w : Tok) (σ : AHeap) (ha : a.length ≤ 1000) (hb : b.length ≤ 1000) : ACalls Try.prog i_slices_Concat_queue_text [.slice 1 [txl t a, txl u b] w] σ fun v σ' => ∃ tk, v = txl tk (a ++ b) ∧ Hp σ [] σ' := by
  refine acall_freeze (conc0 a b t u w σ ha hb) ?_
  rintro v υ (⟨h0, rfl, rfl⟩ | ⟨r, rfl, H⟩)
  · exact .inl ⟨.full, by rw [h0]; rfl, Hp.nil υ⟩
  · refine .inr ⟨r, 2, _, (a ++ b).map txV, rfl, H.get (k := 0) rfl, by rw [List.length_map], fun x hx => ?_, .none, rfl, H.del_head⟩
    obtain ⟨y, _, rfl⟩ := List.mem_map.1 hx; rfl
end Go.Proofs.Ytagbbpllbiplkaa
/-
  What is taken of a queue, and what is let (repeat ((first | refine aload (by (repeat (first | with_reducible exact upd_same _ _ _ | assumption | rw [upd_ne _ _ (by first | assumption | (apply Ne.symm; assumption))]))) rfl ?_ | refine afit_i64 (by omega) ?_ | refine arem_nonneg (by omega) (by omega) ?_ | refine adiv_i64 (by omega) (by omega) ?_ | refine abr_yes (by omega) ?_ | refine abr_no (by omega) ?_ | refine amin ?_ | refine amax ?_ | refine afit_u64 (by omega) ?_ | refine afit_u8 (by omega) ?_ | rw [List.length_map]); ((conv => whnf); (repeat ((first | with_reducible (first | refine zT rfl ?_ | refine zF rfl ?_ | refine zY rfl ?_) | refine zY (by decide) ?_ | refine zN (by decide) ?_ | with_reducible refine zQ ?_); (conv => whnf)))))).
-/
namespace Go.Proofs.Ytagbbpllbiplkaa
set_option linter.unusedVariables false
set_option linter.unusedSimpArgs false
open Go Go.Am

def takeCode (q : QS) (n : Int) : Int := match q.ts with
  | [] => 4
  | t :: _ => if n < 1 ∨ n > (t.2.length : Int) - q.taken then 1 else 0
def takeQ (q : QS) (n : Int) : QS := match q.ts with
  | [] => q
  | t :: ts => if takeCode q n = 0 then (if n < (t.2.length : Int) - q.taken then ⟨q.room, q.ts, q.taken + n.toNat, q.last⟩ else ⟨q.room, ts, 0, q.last⟩) else q
def takeB (q : QS) (n : Int) : List UInt8 := match q.ts with
  | [] => []
  | t :: _ => if takeCode q n = 0 then (t.2.drop q.taken).take n.toNat else []
def takeAll (q : QS) (n : Int) : Bool := match q.ts with
  | [] => false
  | t :: _ => if takeCode q n = 0 then decide (n = (t.2.length : Int) - q.taken) else false
section
variable {σb σ : AHeap} {iq : Nat} {q : QS} {xs : List Txt} {tk : Tok} {m : Int} {F : List HE}
set_option maxRecDepth 20000 in
theorem qTake (hq : QT q xs m) (H : Hp σb (.o iq (.cells (qcl q xs tk m)) :: F) σ) (n : Int) :
    ACalls Try.prog i_queue_Queue_Take [.ptr iq 0, i64v n] σ fun v σ' => v = .tup [sl .none (takeB q n), boolv (takeAll q n), i64v (takeCode q n)] ∧ ∃ xs' tk' m', QT (takeQ q n) xs' m' ∧ Hp σb (.o iq (.cells (qcl (takeQ q n) xs' tk' m')) :: F) σ' := by
  have hle := hq.ok.le
  have r1 := hq.ok.room1
  have r2 := hq.ok.room2
  have r3 := hq.ok.fits
  have few := hq.ok.few
  have hm := hq.n
  refine k_queue_Queue_Take rfl ?_
  ((conv => whnf); (repeat ((first | with_reducible (first | refine zT rfl ?_ | refine zF rfl ?_ | refine zY rfl ?_) | refine zY (by decide) ?_ | refine zN (by decide) ?_ | with_reducible refine zQ ?_); (conv => whnf))))
  refine acall (qMade hq (H.get (k := 0) rfl)) ?_
  rintro _ σ_ ⟨rfl, e_⟩
  obtain rfl := e_.symm
  refine ⟨?_, Ext.refl _⟩
  ((conv => whnf); (repeat ((first | with_reducible (first | refine zT rfl ?_ | refine zF rfl ?_ | refine zY rfl ?_) | refine zY (by decide) ?_ | refine zN (by decide) ?_ | with_reducible refine zQ ?_); (conv => whnf))))
  (repeat ((first | refine zI (by omega) ?_ | refine zE (by omega) (by omega) ?_ | refine zD (by omega) (by omega) ?_ | refine zY (by omega) ?_ | refine zN (by omega) ?_ | refine amin ?_ | refine amax ?_ | refine zU (by omega) ?_ | refine z8 (by omega) ?_ | refine zX (by omega) (by omega) ?_ | refine zR rfl ?_ | refine acellA ?_ | refine zB H b1 rfl ?_ | refine zC H b1 ?_ | refine zB H b2 rfl ?_ | refine zC H b2 ?_ | refine zB H b3 rfl ?_ | refine zC H b3 ?_ | refine zB H b4 rfl ?_ | refine zC H b4 ?_ | (apply zL H; (· repeat first | exact .h | apply AtK.t); (· rfl)) | (apply zA H; (· repeat first | exact .h | apply AtK.t)) | (apply zS H; (· repeat first | exact .h | apply AtK.t); (· rfl); (conv => whnf); clear H; intro τ H) | rw [List.length_map]); ((conv => whnf); (repeat ((first | with_reducible (first | refine zT rfl ?_ | refine zF rfl ?_ | refine zY rfl ?_) | refine zY (by decide) ?_ | refine zN (by decide) ?_ | with_reducible refine zQ ?_); (conv => whnf))))))
  cases xs with
  | nil =>
    have hts : q.ts = [] := hq.ts.symm
    ((conv => whnf); (repeat ((first | with_reducible (first | refine zT rfl ?_ | refine zF rfl ?_ | refine zY rfl ?_) | refine zY (by decide) ?_ | refine zN (by decide) ?_ | with_reducible refine zQ ?_); (conv => whnf))))
    (repeat ((first | refine zI (by omega) ?_ | refine zE (by omega) (by omega) ?_ | refine zD (by omega) (by omega) ?_ | refine zY (by omega) ?_ | refine zN (by omega) ?_ | refine amin ?_ | refine amax ?_ | refine zU (by omega) ?_ | refine z8 (by omega) ?_ | refine zX (by omega) (by omega) ?_ | refine zR rfl ?_ | refine acellA ?_ | refine zB H b1 rfl ?_ | refine zC H b1 ?_ | refine zB H b2 rfl ?_ | refine zC H b2 ?_ | refine zB H b3 rfl ?_ | refine zC H b3 ?_ | refine zB H b4 rfl ?_ | refine zC H b4 ?_ | (apply zL H; (· repeat first | exact .h | apply AtK.t); (· rfl)) | (apply zA H; (· repeat first | exact .h | apply AtK.t)) | (apply zS H; (· repeat first | exact .h | apply AtK.t); (· rfl); (conv => whnf); clear H; intro τ H) | rw [List.length_map]); ((conv => whnf); (repeat ((first | with_reducible (first | refine zT rfl ?_ | refine zF rfl ?_ | refine zY rfl ?_) | refine zY (by decide) ?_ | refine zN (by decide) ?_ | with_reducible refine zQ ?_); (conv => whnf))))))
    refine aret VLe.tup_sl (Sub.refl _) ⟨?_, [], tk, m, ?_, ?_⟩
    · unfold takeB takeAll takeCode; rw [hts]; rfl
    · unfold takeQ; rw [hts]; exact hq
    · unfold takeQ; rw [hts]; exact H
  | cons t xs =>
    have hts : q.ts = strip t :: xs.map strip := hq.ts.symm
    have hb := hq.ok.begun
    have he := hq.ok.each (strip t) (by rw [hts]; exact List.mem_cons_self ..)
    rw [hts] at hb
    have hb2 : q.taken < t.2.1.length := hb
    have he2 : t.2.1.length ≤ 1000 := he.2
    have hfl : xs.length ≤ 63 := by rw [hts] at few; simp at few; omega
    have ecode : takeCode q n = if n < 1 ∨ n > (t.2.1.length : Int) - q.taken then 1 else 0 := by unfold takeCode; rw [hts]; rfl
    have htot : tot q.ts = t.2.1.length + tot (xs.map strip) := by rw [hts, tot_cons]; rfl
    rw [show (t :: xs).length = xs.length + 1 from rfl]
    ((conv => whnf); (repeat ((first | with_reducible (first | refine zT rfl ?_ | refine zF rfl ?_ | refine zY rfl ?_) | refine zY (by decide) ?_ | refine zN (by decide) ?_ | with_reducible refine zQ ?_); (conv => whnf))))
    (repeat ((first | refine zI (by omega) ?_ | refine zE (by omega) (by omega) ?_ | refine zD (by omega) (by omega) ?_ | refine zY (by omega) ?_ | refine zN (by omega) ?_ | refine amin ?_ | refine amax ?_ | refine zU (by omega) ?_ | refine z8 (by omega) ?_ | refine zX (by omega) (by omega) ?_ | refine zR rfl ?_ | refine acellA ?_ | refine zB H b1 rfl ?_ | refine zC H b1 ?_ | refine zB H b2 rfl ?_ | refine zC H b2 ?_ | refine zB H b3 rfl ?_ | refine zC H b3 ?_ | refine zB H b4 rfl ?_ | refine zC H b4 ?_ | (apply zL H; (· repeat first | exact .h | apply AtK.t); (· rfl)) | (apply zA H; (· repeat first | exact .h | apply AtK.t)) | (apply zS H; (· repeat first | exact .h | apply AtK.t); (· rfl); (conv => whnf); clear H; intro τ H) | rw [List.length_map]); ((conv => whnf); (repeat ((first | with_reducible (first | refine zT rfl ?_ | refine zF rfl ?_ | refine zY rfl ?_) | refine zY (by decide) ?_ | refine zN (by decide) ?_ | with_reducible refine zQ ?_); (conv => whnf))))))
    refine aget (x := txV t) (by omega) rfl ?_
    ((conv => whnf); (repeat ((first | with_reducible (first | refine zT rfl ?_ | refine zF rfl ?_ | refine zY rfl ?_) | refine zY (by decide) ?_ | refine zN (by decide) ?_ | with_reducible refine zQ ?_); (conv => whnf))))
    (repeat ((first | refine zI (by omega) ?_ | refine zE (by omega) (by omega) ?_ | refine zD (by omega) (by omega) ?_ | refine zY (by omega) ?_ | refine zN (by omega) ?_ | refine amin ?_ | refine amax ?_ | refine zU (by omega) ?_ | refine z8 (by omega) ?_ | refine zX (by omega) (by omega) ?_ | refine zR rfl ?_ | refine acellA ?_ | refine zB H b1 rfl ?_ | refine zC H b1 ?_ | refine zB H b2 rfl ?_ | refine zC H b2 ?_ | refine zB H b3 rfl ?_ | refine zC H b3 ?_ | refine zB H b4 rfl ?_ | refine zC H b4 ?_ | (apply zL H; (· repeat first | exact .h | apply AtK.t); (· rfl)) | (apply zA H; (· repeat first | exact .h | apply AtK.t)) | (apply zS H; (· repeat first | exact .h | apply AtK.t); (· rfl); (conv => whnf); clear H; intro τ H) | rw [List.length_map]); ((conv => whnf); (repeat ((first | with_reducible (first | refine zT rfl ?_ | refine zF rfl ?_ | refine zY rfl ?_) | refine zY (by decide) ?_ | refine zN (by decide) ?_ | with_reducible refine zQ ?_); (conv => whnf))))))
    refine acut (by omega) (by omega) (by omega) ?_
    ((conv => whnf); (repeat ((first | with_reducible (first | refine zT rfl ?_ | refine zF rfl ?_ | refine zY rfl ?_) | refine zY (by decide) ?_ | refine zN (by decide) ?_ | with_reducible refine zQ ?_); (conv => whnf))))
    rw [show ((q.taken : Nat) : Int).toNat = q.taken by omega, show ((t.2.1.length : Nat) : Int).toNat = t.2.1.length by omega, List.take_of_length_le (by simp), ← List.map_drop]
    have bad (hc : takeCode q n = 1) {υ : AHeap} (H : Hp σb (.o iq (.cells (qcl q (t :: xs) tk m)) :: F) υ) : AVal.tup [sl .none [], boolv false, i64v 1] = .tup [sl .none (takeB q n), boolv (takeAll q n), i64v (takeCode q n)] ∧ ∃ xs' tk' m', QT (takeQ q n) xs' m' ∧ Hp σb (.o iq (.cells (qcl (takeQ q n) xs' tk' m')) :: F) υ := by
      have e : takeQ q n = q := by unfold takeQ; rw [hts, hc]; rfl
      refine ⟨?_, t :: xs, tk, m, ?_, ?_⟩
      · unfold takeB takeAll; rw [hts, hc]; rfl
      · rw [e]; exact hq
      · rw [e]; exact H
    by_cases h1 : n < 1
    · (repeat ((first | refine zI (by omega) ?_ | refine zE (by omega) (by omega) ?_ | refine zD (by omega) (by omega) ?_ | refine zY (by omega) ?_ | refine zN (by omega) ?_ | refine amin ?_ | refine amax ?_ | refine zU (by omega) ?_ | refine z8 (by omega) ?_ | refine zX (by omega) (by omega) ?_ | refine zR rfl ?_ | refine acellA ?_ | refine zB H b1 rfl ?_ | refine zC H b1 ?_ | refine zB H b2 rfl ?_ | refine zC H b2 ?_ | refine zB H b3 rfl ?_ | refine zC H b3 ?_ | refine zB H b4 rfl ?_ | refine zC H b4 ?_ | (apply zL H; (· repeat first | exact .h | apply AtK.t); (· rfl)) | (apply zA H; (· repeat first | exact .h | apply AtK.t)) | (apply zS H; (· repeat first | exact .h | apply AtK.t); (· rfl); (conv => whnf); clear H; intro τ H) | rw [List.length_map]); ((conv => whnf); (repeat ((first | with_reducible (first | refine zT rfl ?_ | refine zF rfl ?_ | refine zY rfl ?_) | refine zY (by decide) ?_ | refine zN (by decide) ?_ | with_reducible refine zQ ?_); (conv => whnf))))))
      exact aret VLe.tup_sl (Sub.refl _) (bad (by rw [ecode, if_pos (.inl h1)]) H)
    (repeat ((first | refine zI (by omega) ?_ | refine zE (by omega) (by omega) ?_ | refine zD (by omega) (by omega) ?_ | refine zY (by omega) ?_ | refine zN (by omega) ?_ | refine amin ?_ | refine amax ?_ | refine zU (by omega) ?_ | refine z8 (by omega) ?_ | refine zX (by omega) (by omega) ?_ | refine zR rfl ?_ | refine acellA ?_ | refine zB H b1 rfl ?_ | refine zC H b1 ?_ | refine zB H b2 rfl ?_ | refine zC H b2 ?_ | refine zB H b3 rfl ?_ | refine zC H b3 ?_ | refine zB H b4 rfl ?_ | refine zC H b4 ?_ | (apply zL H; (· repeat first | exact .h | apply AtK.t); (· rfl)) | (apply zA H; (· repeat first | exact .h | apply AtK.t)) | (apply zS H; (· repeat first | exact .h | apply AtK.t); (· rfl); (conv => whnf); clear H; intro τ H) | rw [List.length_map]); ((conv => whnf); (repeat ((first | with_reducible (first | refine zT rfl ?_ | refine zF rfl ?_ | refine zY rfl ?_) | refine zY (by decide) ?_ | refine zN (by decide) ?_ | with_reducible refine zQ ?_); (conv => whnf))))))
    rw [List.length_drop]
    by_cases h2 : n > (t.2.1.length : Int) - q.taken
    · refine abr_yes (by omega) ?_
      ((conv => whnf); (repeat ((first | with_reducible (first | refine zT rfl ?_ | refine zF rfl ?_ | refine zY rfl ?_) | refine zY (by decide) ?_ | refine zN (by decide) ?_ | with_reducible refine zQ ?_); (conv => whnf))))
      (repeat ((first | refine zI (by omega) ?_ | refine zE (by omega) (by omega) ?_ | refine zD (by omega) (by omega) ?_ | refine zY (by omega) ?_ | refine zN (by omega) ?_ | refine amin ?_ | refine amax ?_ | refine zU (by omega) ?_ | refine z8 (by omega) ?_ | refine zX (by omega) (by omega) ?_ | refine zR rfl ?_ | refine acellA ?_ | refine zB H b1 rfl ?_ | refine zC H b1 ?_ | refine zB H b2 rfl ?_ | refine zC H b2 ?_ | refine zB H b3 rfl ?_ | refine zC H b3 ?_ | refine zB H b4 rfl ?_ | refine zC H b4 ?_ | (apply zL H; (· repeat first | exact .h | apply AtK.t); (· rfl)) | (apply zA H; (· repeat first | exact .h | apply AtK.t)) | (apply zS H; (· repeat first | exact .h | apply AtK.t); (· rfl); (conv => whnf); clear H; intro τ H) | rw [List.length_map]); ((conv => whnf); (repeat ((first | with_reducible (first | refine zT rfl ?_ | refine zF rfl ?_ | refine zY rfl ?_) | refine zY (by decide) ?_ | refine zN (by decide) ?_ | with_reducible refine zQ ?_); (conv => whnf))))))
      exact aret VLe.tup_sl (Sub.refl _) (bad (by rw [ecode, if_pos (.inr h2)]) H)
    have hc : takeCode q n = 0 := by rw [ecode, if_neg (by omega)]
    refine abr_no (by omega) ?_
    ((conv => whnf); (repeat ((first | with_reducible (first | refine zT rfl ?_ | refine zF rfl ?_ | refine zY rfl ?_) | refine zY (by decide) ?_ | refine zN (by decide) ?_ | with_reducible refine zQ ?_); (conv => whnf))))
    (repeat ((first | refine zI (by omega) ?_ | refine zE (by omega) (by omega) ?_ | refine zD (by omega) (by omega) ?_ | refine zY (by omega) ?_ | refine zN (by omega) ?_ | refine amin ?_ | refine amax ?_ | refine zU (by omega) ?_ | refine z8 (by omega) ?_ | refine zX (by omega) (by omega) ?_ | refine zR rfl ?_ | refine acellA ?_ | refine zB H b1 rfl ?_ | refine zC H b1 ?_ | refine zB H b2 rfl ?_ | refine zC H b2 ?_ | refine zB H b3 rfl ?_ | refine zC H b3 ?_ | refine zB H b4 rfl ?_ | refine zC H b4 ?_ | (apply zL H; (· repeat first | exact .h | apply AtK.t); (· rfl)) | (apply zA H; (· repeat first | exact .h | apply AtK.t)) | (apply zS H; (· repeat first | exact .h | apply AtK.t); (· rfl); (conv => whnf); clear H; intro τ H) | rw [List.length_map]); ((conv => whnf); (repeat ((first | with_reducible (first | refine zT rfl ?_ | refine zF rfl ?_ | refine zY rfl ?_) | refine zY (by decide) ?_ | refine zN (by decide) ?_ | with_reducible refine zQ ?_); (conv => whnf))))))
    refine acut (by omega) (by omega) (by rw [List.length_drop]; omega) ?_
    ((conv => whnf); (repeat ((first | with_reducible (first | refine zT rfl ?_ | refine zF rfl ?_ | refine zY rfl ?_) | refine zY (by decide) ?_ | refine zN (by decide) ?_ | with_reducible refine zQ ?_); (conv => whnf))))
    refine ⟨rfl, rfl, ?_⟩
    rw [← List.map_take, show (0 : Int).toNat = 0 from rfl, List.drop_zero]
    ((conv => whnf); (repeat ((first | with_reducible (first | refine zT rfl ?_ | refine zF rfl ?_ | refine zY rfl ?_) | refine zY (by decide) ?_ | refine zN (by decide) ?_ | with_reducible refine zQ ?_); (conv => whnf))))
    refine acall (Clone ((t.2.1.drop q.taken).take n.toNat) _ _ (by rw [List.length_take, List.length_drop]; omega)) ?_
    rintro v υ ⟨tk3, ho, rfl⟩
    refine ⟨?_, ho.ext⟩
    replace H := (H.owned ho).tail
    clear ho
    ((conv => whnf); (repeat ((first | with_reducible (first | refine zT rfl ?_ | refine zF rfl ?_ | refine zY rfl ?_) | refine zY (by decide) ?_ | refine zN (by decide) ?_ | with_reducible refine zQ ?_); (conv => whnf))))
    (repeat ((first | refine zI (by omega) ?_ | refine zE (by omega) (by omega) ?_ | refine zD (by omega) (by omega) ?_ | refine zY (by omega) ?_ | refine zN (by omega) ?_ | refine amin ?_ | refine amax ?_ | refine zU (by omega) ?_ | refine z8 (by omega) ?_ | refine zX (by omega) (by omega) ?_ | refine zR rfl ?_ | refine acellA ?_ | refine zB H b1 rfl ?_ | refine zC H b1 ?_ | refine zB H b2 rfl ?_ | refine zC H b2 ?_ | refine zB H b3 rfl ?_ | refine zC H b3 ?_ | refine zB H b4 rfl ?_ | refine zC H b4 ?_ | (apply zL H; (· repeat first | exact .h | apply AtK.t); (· rfl)) | (apply zA H; (· repeat first | exact .h | apply AtK.t)) | (apply zS H; (· repeat first | exact .h | apply AtK.t); (· rfl); (conv => whnf); clear H; intro τ H) | rw [List.length_map]); ((conv => whnf); (repeat ((first | with_reducible (first | refine zT rfl ?_ | refine zF rfl ?_ | refine zY rfl ?_) | refine zY (by decide) ?_ | refine zN (by decide) ?_ | with_reducible refine zQ ?_); (conv => whnf))))))
    rw [List.length_drop]
    have eB : takeB q n = (t.2.1.drop q.taken).take n.toNat := by unfold takeB; rw [hts, hc]; rfl
    by_cases h3 : n < (t.2.1.length : Int) - q.taken
    · refine abr_yes (by omega) ?_
      ((conv => whnf); (repeat ((first | with_reducible (first | refine zT rfl ?_ | refine zF rfl ?_ | refine zY rfl ?_) | refine zY (by decide) ?_ | refine zN (by decide) ?_ | with_reducible refine zQ ?_); (conv => whnf))))
      have eQ : takeQ q n = ⟨q.room, q.ts, q.taken + n.toNat, q.last⟩ := by
        unfold takeQ; rw [hc]
        rw [hts]
        show (if (0 : Int) = 0 then (if n < (t.2.1.length : Int) - q.taken then _ else _) else q) = _
        rw [if_pos rfl, if_pos h3]
      have eA : takeAll q n = false := by
        unfold takeAll; rw [hts, hc]
        show (if (0 : Int) = 0 then decide (n = (t.2.1.length : Int) - q.taken) else false) = false
        rw [if_pos rfl, decide_eq_false (by omega)]
      rw [show ((q.taken : Nat) : Int) + n = ((q.taken + n.toNat : Nat) : Int) by omega] at H
      refine aret VLe.tup_sl (Sub.refl _) ⟨by rw [eB, eA, hc], t :: xs, tk, m - n, ?_, ?_⟩
      · rw [eQ]
        refine ⟨⟨r1, r2, few, hq.ok.each, ?_, by dsimp only; omega, hq.ok.last⟩, hq.ts, by dsimp only; omega⟩
        dsimp only
        rw [hts]
        show q.taken + n.toNat < t.2.1.length
        omega
      · rw [eQ]
        exact H
    · have hn : n = (t.2.1.length : Int) - q.taken := by omega
      refine abr_no (by omega) ?_
      ((conv => whnf); (repeat ((first | with_reducible (first | refine zT rfl ?_ | refine zF rfl ?_ | refine zY rfl ?_) | refine zY (by decide) ?_ | refine zN (by decide) ?_ | with_reducible refine zQ ?_); (conv => whnf))))
      (repeat ((first | refine zI (by omega) ?_ | refine zE (by omega) (by omega) ?_ | refine zD (by omega) (by omega) ?_ | refine zY (by omega) ?_ | refine zN (by omega) ?_ | refine amin ?_ | refine amax ?_ | refine zU (by omega) ?_ | refine z8 (by omega) ?_ | refine zX (by omega) (by omega) ?_ | refine zR rfl ?_ | refine acellA ?_ | refine zB H b1 rfl ?_ | refine zC H b1 ?_ | refine zB H b2 rfl ?_ | refine zC H b2 ?_ | refine zB H b3 rfl ?_ | refine zC H b3 ?_ | refine zB H b4 rfl ?_ | refine zC H b4 ?_ | (apply zL H; (· repeat first | exact .h | apply AtK.t); (· rfl)) | (apply zA H; (· repeat first | exact .h | apply AtK.t)) | (apply zS H; (· repeat first | exact .h | apply AtK.t); (· rfl); (conv => whnf); clear H; intro τ H) | rw [List.length_map]); ((conv => whnf); (repeat ((first | with_reducible (first | refine zT rfl ?_ | refine zF rfl ?_ | refine zY rfl ?_) | refine zY (by decide) ?_ | refine zN (by decide) ?_ | with_reducible refine zQ ?_); (conv => whnf))))))
      have hlen : ((t :: xs).map txV).length = xs.length + 1 := by simp
      have hlen2 : (t :: xs).length = xs.length + 1 := rfl
      refine acut (by omega) (by omega) (by omega) ?_
      ((conv => whnf); (repeat ((first | with_reducible (first | refine zT rfl ?_ | refine zF rfl ?_ | refine zY rfl ?_) | refine zY (by decide) ?_ | refine zN (by decide) ?_ | with_reducible refine zQ ?_); (conv => whnf))))
      rw [show (1 : Int).toNat = 1 from rfl, List.take_of_length_le (by rw [hlen]; simp), ← List.map_drop, List.drop_succ_cons, List.drop_zero]
      refine acall (CloneT xs _ _ (by omega)) ?_
      rintro v υ2 ⟨tk4, ho4, rfl⟩
      refine ⟨?_, ho4.ext⟩
      replace H := (H.owned ho4).tail
      clear ho4
      ((conv => whnf); (repeat ((first | with_reducible (first | refine zT rfl ?_ | refine zF rfl ?_ | refine zY rfl ?_) | refine zY (by decide) ?_ | refine zN (by decide) ?_ | with_reducible refine zQ ?_); (conv => whnf))))
      (repeat ((first | refine zI (by omega) ?_ | refine zE (by omega) (by omega) ?_ | refine zD (by omega) (by omega) ?_ | refine zY (by omega) ?_ | refine zN (by omega) ?_ | refine amin ?_ | refine amax ?_ | refine zU (by omega) ?_ | refine z8 (by omega) ?_ | refine zX (by omega) (by omega) ?_ | refine zR rfl ?_ | refine acellA ?_ | refine zB H b1 rfl ?_ | refine zC H b1 ?_ | refine zB H b2 rfl ?_ | refine zC H b2 ?_ | refine zB H b3 rfl ?_ | refine zC H b3 ?_ | refine zB H b4 rfl ?_ | refine zC H b4 ?_ | (apply zL H; (· repeat first | exact .h | apply AtK.t); (· rfl)) | (apply zA H; (· repeat first | exact .h | apply AtK.t)) | (apply zS H; (· repeat first | exact .h | apply AtK.t); (· rfl); (conv => whnf); clear H; intro τ H) | rw [List.length_map]); ((conv => whnf); (repeat ((first | with_reducible (first | refine zT rfl ?_ | refine zF rfl ?_ | refine zY rfl ?_) | refine zY (by decide) ?_ | refine zN (by decide) ?_ | with_reducible refine zQ ?_); (conv => whnf))))))
      have eQ : takeQ q n = ⟨q.room, xs.map strip, 0, q.last⟩ := by
        unfold takeQ; rw [hc]
        rw [hts]
        show (if (0 : Int) = 0 then (if n < (t.2.1.length : Int) - q.taken then _ else _) else q) = _
        rw [if_pos rfl, if_neg h3]
      have eA : takeAll q n = true := by
        unfold takeAll; rw [hts, hc]
        show (if (0 : Int) = 0 then decide (n = (t.2.1.length : Int) - q.taken) else false) = true
        rw [if_pos rfl, decide_eq_true hn]
      refine aret VLe.tup_sl (Sub.refl _) ⟨by rw [eB, eA, hc], xs, tk4, m - n, ?_, ?_⟩
      · rw [eQ]
        refine ⟨⟨r1, r2, by dsimp only; rw [List.length_map]; omega, ?_, ?_, by dsimp only; omega, hq.ok.last⟩, rfl, by dsimp only; omega⟩
        · intro u hu
          exact hq.ok.each u (by rw [hts]; exact List.mem_cons_of_mem _ hu)
        · dsimp only
          cases xs with
          | nil => rfl
          | cons u xs =>
            show 0 < (strip u).2.length
            have := (hq.ok.each (strip u) (by rw [hts]; exact List.mem_cons_of_mem _ (List.mem_cons_self ..))).1
            omega
      · rw [eQ]
        exact H
end
end Go.Proofs.Ytagbbpllbiplkaa
/-
  What is let (repeat ((first | refine aload (by (repeat (first | with_reducible exact upd_same _ _ _ | assumption | rw [upd_ne _ _ (by first | assumption | (apply Ne.symm; assumption))]))) rfl ?_ | refine afit_i64 (by omega) ?_ | refine arem_nonneg (by omega) (by omega) ?_ | refine adiv_i64 (by omega) (by omega) ?_ | refine abr_yes (by omega) ?_ | refine abr_no (by omega) ?_ | refine amin ?_ | refine amax ?_ | refine afit_u64 (by omega) ?_ | refine afit_u8 (by omega) ?_ | rw [List.length_map]); ((conv => whnf); (repeat ((first | with_reducible (first | refine zT rfl ?_ | refine zF rfl ?_ | refine zY rfl ?_) | refine zY (by decide) ?_ | refine zN (by decide) ?_ | with_reducible refine zQ ?_); (conv => whnf)))))) of a queue.
-/
namespace Go.Proofs.Ytagbbpllbiplkaa
set_option linter.unusedVariables false
set_option linter.unusedSimpArgs false
open Go Go.Am

def posN (id : Nat) : List (Nat × List UInt8) → Nat
  | [] => 0
  | t :: l => if t.1 = id then 0 else posN id l + 1
theorem posN_le (id : Nat) : ∀ l, posN id l ≤ l.length
  | [] => Nat.le_refl _
  | t :: l => by
    unfold posN
    have := posN_le id l
    split <;> simp <;> omega
def discCode (q : QS) (id : Nat) : Int := if posN id q.ts = q.ts.length then 4 else if posN id q.ts = 0 ∧ 0 < q.taken then 7 else 0
def discQ (q : QS) (id : Nat) : QS := if discCode q id = 0 then ⟨q.room, q.ts.eraseIdx (posN id q.ts), q.taken, q.last⟩ else q
theorem tot_erase : ∀ {l : List (Nat × List UInt8)} {i : Nat} (h : i < l.length), tot (l.eraseIdx i) + l[i].2.length = tot l
  | t :: l, 0, _ => by rw [tot_cons]; show tot l + t.2.length = _; omega
  | t :: l, i + 1, h => by
    have := tot_erase (l := l) (i := i) (by simpa using h)
    show tot (t :: l.eraseIdx i) + (l[i]'(by simpa using h)).2.length = _
    rw [tot_cons, tot_cons]; omega
section
variable {σb σ : AHeap} {iq : Nat} {q : QS} {xs : List Txt} {tk : Tok} {m : Int} {F : List HE}
set_option maxRecDepth 20000 in
theorem qDiscard (hq : QT q xs m) (H : Hp σb (.o iq (.cells (qcl q xs tk m)) :: F) σ) (id : Nat) :
    ACalls Try.prog i_queue_Queue_Discard [.ptr iq 0, u64v id] σ fun v σ' => v = i64v (discCode q id) ∧ ∃ xs' tk' m', QT (discQ q id) xs' m' ∧ Hp σb (.o iq (.cells (qcl (discQ q id) xs' tk' m')) :: F) σ' := by
  have hle := hq.ok.le
  have r1 := hq.ok.room1
  have r2 := hq.ok.room2
  have r3 := hq.ok.fits
  have few := hq.ok.few
  have hm := hq.n
  have hl := hq.len
  have keep {υ : AHeap} (hc : discCode q id ≠ 0) (H : Hp σb (.o iq (.cells (qcl q xs tk m)) :: F) υ) : ∃ xs' tk' m', QT (discQ q id) xs' m' ∧ Hp σb (.o iq (.cells (qcl (discQ q id) xs' tk' m')) :: F) υ := by
    have e : discQ q id = q := if_neg hc
    rw [e]
    exact ⟨xs, tk, m, hq, H⟩
  refine k_queue_Queue_Discard rfl ?_
  ((conv => whnf); (repeat ((first | with_reducible (first | refine zT rfl ?_ | refine zF rfl ?_ | refine zY rfl ?_) | refine zY (by decide) ?_ | refine zN (by decide) ?_ | with_reducible refine zQ ?_); (conv => whnf))))
  refine ascope' (α := Nat) (fun i => [(s5, i64v i)]) (fun _ => σ) (fun _ => 0) (fun i => i ≤ xs.length ∧ i + posN id ((xs.drop i).map strip) = posN id q.ts) (fun i => xs.length - i) ?_ ?_
  · ((conv => whnf); (repeat ((first | with_reducible (first | refine zT rfl ?_ | refine zF rfl ?_ | refine zY rfl ?_) | refine zY (by decide) ?_ | refine zN (by decide) ?_ | with_reducible refine zQ ?_); (conv => whnf))))
    intro hlab
    ((conv => whnf); (repeat ((first | with_reducible (first | refine zT rfl ?_ | refine zF rfl ?_ | refine zY rfl ?_) | refine zY (by decide) ?_ | refine zN (by decide) ?_ | with_reducible refine zQ ?_); (conv => whnf))))
    refine acall (qMade hq (H.get (k := 0) rfl)) ?_
    rintro _ σ_ ⟨rfl, e_⟩
    obtain rfl := e_.symm
    refine ⟨?_, Ext.refl _⟩
    ((conv => whnf); (repeat ((first | with_reducible (first | refine zT rfl ?_ | refine zF rfl ?_ | refine zY rfl ?_) | refine zY (by decide) ?_ | refine zN (by decide) ?_ | with_reducible refine zQ ?_); (conv => whnf))))
    refine hlab _ (fun _ _ _ h => h) _ _ _ _ ⟨0, rfl, ⟨Nat.zero_le _, by rw [List.drop_zero, hq.ts, Nat.zero_add]⟩, rfl, Sub.refl _, ?_⟩
    ((conv => whnf); (repeat ((first | with_reducible (first | refine zT rfl ?_ | refine zF rfl ?_ | refine zY rfl ?_) | refine zY (by decide) ?_ | refine zN (by decide) ?_ | with_reducible refine zQ ?_); (conv => whnf))))
    (repeat' first | with_reducible exact EnvLe.refl _ | (refine EnvLe.node ?_ (by first | exact Or.inl rfl | exact Or.inr (Or.inl rfl) | exact Or.inr (Or.inr ⟨nofun, VLe.slice _ _ _⟩)) ?_))
  rintro i ⟨hi, hp⟩
  refine ⟨_, rfl, ?_⟩
  ((conv => whnf); (repeat ((first | with_reducible (first | refine zT rfl ?_ | refine zF rfl ?_ | refine zY rfl ?_) | refine zY (by decide) ?_ | refine zN (by decide) ?_ | with_reducible refine zQ ?_); (conv => whnf))))
  intro hlab
  ((conv => whnf); (repeat ((first | with_reducible (first | refine zT rfl ?_ | refine zF rfl ?_ | refine zY rfl ?_) | refine zY (by decide) ?_ | refine zN (by decide) ?_ | with_reducible refine zQ ?_); (conv => whnf))))
  (repeat ((first | refine zI (by omega) ?_ | refine zE (by omega) (by omega) ?_ | refine zD (by omega) (by omega) ?_ | refine zY (by omega) ?_ | refine zN (by omega) ?_ | refine amin ?_ | refine amax ?_ | refine zU (by omega) ?_ | refine z8 (by omega) ?_ | refine zX (by omega) (by omega) ?_ | refine zR rfl ?_ | refine acellA ?_ | refine zB H b1 rfl ?_ | refine zC H b1 ?_ | refine zB H b2 rfl ?_ | refine zC H b2 ?_ | refine zB H b3 rfl ?_ | refine zC H b3 ?_ | refine zB H b4 rfl ?_ | refine zC H b4 ?_ | (apply zL H; (· repeat first | exact .h | apply AtK.t); (· rfl)) | (apply zA H; (· repeat first | exact .h | apply AtK.t)) | (apply zS H; (· repeat first | exact .h | apply AtK.t); (· rfl); (conv => whnf); clear H; intro τ H) | rw [List.length_map]); ((conv => whnf); (repeat ((first | with_reducible (first | refine zT rfl ?_ | refine zF rfl ?_ | refine zY rfl ?_) | refine zY (by decide) ?_ | refine zN (by decide) ?_ | with_reducible refine zQ ?_); (conv => whnf))))))
  by_cases h : i = xs.length
  · rw [List.drop_eq_nil_of_le (by omega)] at hp
    have hc : discCode q id = 4 := if_pos (by rw [← hp]; show i + 0 = _; omega)
    (repeat ((first | refine zI (by omega) ?_ | refine zE (by omega) (by omega) ?_ | refine zD (by omega) (by omega) ?_ | refine zY (by omega) ?_ | refine zN (by omega) ?_ | refine amin ?_ | refine amax ?_ | refine zU (by omega) ?_ | refine z8 (by omega) ?_ | refine zX (by omega) (by omega) ?_ | refine zR rfl ?_ | refine acellA ?_ | refine zB H b1 rfl ?_ | refine zC H b1 ?_ | refine zB H b2 rfl ?_ | refine zC H b2 ?_ | refine zB H b3 rfl ?_ | refine zC H b3 ?_ | refine zB H b4 rfl ?_ | refine zC H b4 ?_ | (apply zL H; (· repeat first | exact .h | apply AtK.t); (· rfl)) | (apply zA H; (· repeat first | exact .h | apply AtK.t)) | (apply zS H; (· repeat first | exact .h | apply AtK.t); (· rfl); (conv => whnf); clear H; intro τ H) | rw [List.length_map]); ((conv => whnf); (repeat ((first | with_reducible (first | refine zT rfl ?_ | refine zF rfl ?_ | refine zY rfl ?_) | refine zY (by decide) ?_ | refine zN (by decide) ?_ | with_reducible refine zQ ?_); (conv => whnf))))))
    exact aret (VLe.refl _) (Sub.refl _) ⟨by rw [hc], keep (by rw [hc]; decide) H⟩
  have hlt : i < xs.length := by omega
  rw [List.drop_eq_getElem_cons hlt, List.map_cons] at hp
  rw [show posN id (strip xs[i] :: (xs.drop (i + 1)).map strip) = if (strip xs[i]).1 = id then 0 else posN id ((xs.drop (i + 1)).map strip) + 1 from rfl] at hp
  (repeat ((first | refine zI (by omega) ?_ | refine zE (by omega) (by omega) ?_ | refine zD (by omega) (by omega) ?_ | refine zY (by omega) ?_ | refine zN (by omega) ?_ | refine amin ?_ | refine amax ?_ | refine zU (by omega) ?_ | refine z8 (by omega) ?_ | refine zX (by omega) (by omega) ?_ | refine zR rfl ?_ | refine acellA ?_ | refine zB H b1 rfl ?_ | refine zC H b1 ?_ | refine zB H b2 rfl ?_ | refine zC H b2 ?_ | refine zB H b3 rfl ?_ | refine zC H b3 ?_ | refine zB H b4 rfl ?_ | refine zC H b4 ?_ | (apply zL H; (· repeat first | exact .h | apply AtK.t); (· rfl)) | (apply zA H; (· repeat first | exact .h | apply AtK.t)) | (apply zS H; (· repeat first | exact .h | apply AtK.t); (· rfl); (conv => whnf); clear H; intro τ H) | rw [List.length_map]); ((conv => whnf); (repeat ((first | with_reducible (first | refine zT rfl ?_ | refine zF rfl ?_ | refine zY rfl ?_) | refine zY (by decide) ?_ | refine zN (by decide) ?_ | with_reducible refine zQ ?_); (conv => whnf))))))
  refine aget (by omega) (get_txs rfl hlt) ?_
  ((conv => whnf); (repeat ((first | with_reducible (first | refine zT rfl ?_ | refine zF rfl ?_ | refine zY rfl ?_) | refine zY (by decide) ?_ | refine zN (by decide) ?_ | with_reducible refine zQ ?_); (conv => whnf))))
  (repeat ((first | refine zI (by omega) ?_ | refine zE (by omega) (by omega) ?_ | refine zD (by omega) (by omega) ?_ | refine zY (by omega) ?_ | refine zN (by omega) ?_ | refine amin ?_ | refine amax ?_ | refine zU (by omega) ?_ | refine z8 (by omega) ?_ | refine zX (by omega) (by omega) ?_ | refine zR rfl ?_ | refine acellA ?_ | refine zB H b1 rfl ?_ | refine zC H b1 ?_ | refine zB H b2 rfl ?_ | refine zC H b2 ?_ | refine zB H b3 rfl ?_ | refine zC H b3 ?_ | refine zB H b4 rfl ?_ | refine zC H b4 ?_ | (apply zL H; (· repeat first | exact .h | apply AtK.t); (· rfl)) | (apply zA H; (· repeat first | exact .h | apply AtK.t)) | (apply zS H; (· repeat first | exact .h | apply AtK.t); (· rfl); (conv => whnf); clear H; intro τ H) | rw [List.length_map]); ((conv => whnf); (repeat ((first | with_reducible (first | refine zT rfl ?_ | refine zF rfl ?_ | refine zY rfl ?_) | refine zY (by decide) ?_ | refine zN (by decide) ?_ | with_reducible refine zQ ?_); (conv => whnf))))))
  by_cases hid : xs[i].1 = id
  · rw [if_pos (show (strip xs[i]).1 = id from hid)] at hp
    refine abr_no (by rw [hid]; exact fun h => h rfl) ?_
    ((conv => whnf); (repeat ((first | with_reducible (first | refine zT rfl ?_ | refine zF rfl ?_ | refine zY rfl ?_) | refine zY (by decide) ?_ | refine zN (by decide) ?_ | with_reducible refine zQ ?_); (conv => whnf))))
    (repeat ((first | refine zI (by omega) ?_ | refine zE (by omega) (by omega) ?_ | refine zD (by omega) (by omega) ?_ | refine zY (by omega) ?_ | refine zN (by omega) ?_ | refine amin ?_ | refine amax ?_ | refine zU (by omega) ?_ | refine z8 (by omega) ?_ | refine zX (by omega) (by omega) ?_ | refine zR rfl ?_ | refine acellA ?_ | refine zB H b1 rfl ?_ | refine zC H b1 ?_ | refine zB H b2 rfl ?_ | refine zC H b2 ?_ | refine zB H b3 rfl ?_ | refine zC H b3 ?_ | refine zB H b4 rfl ?_ | refine zC H b4 ?_ | (apply zL H; (· repeat first | exact .h | apply AtK.t); (· rfl)) | (apply zA H; (· repeat first | exact .h | apply AtK.t)) | (apply zS H; (· repeat first | exact .h | apply AtK.t); (· rfl); (conv => whnf); clear H; intro τ H) | rw [List.length_map]); ((conv => whnf); (repeat ((first | with_reducible (first | refine zT rfl ?_ | refine zF rfl ?_ | refine zY rfl ?_) | refine zY (by decide) ?_ | refine zN (by decide) ?_ | with_reducible refine zQ ?_); (conv => whnf))))))
    have hps : posN id q.ts = i := by omega
    have hne : ¬ posN id q.ts = q.ts.length := by omega
    by_cases hb : i = 0 ∧ 0 < q.taken
    · have hc : discCode q id = 7 := by unfold discCode; rw [if_neg hne, if_pos (by rw [hps]; exact hb)]
      (repeat ((first | refine zI (by omega) ?_ | refine zE (by omega) (by omega) ?_ | refine zD (by omega) (by omega) ?_ | refine zY (by omega) ?_ | refine zN (by omega) ?_ | refine amin ?_ | refine amax ?_ | refine zU (by omega) ?_ | refine z8 (by omega) ?_ | refine zX (by omega) (by omega) ?_ | refine zR rfl ?_ | refine acellA ?_ | refine zB H b1 rfl ?_ | refine zC H b1 ?_ | refine zB H b2 rfl ?_ | refine zC H b2 ?_ | refine zB H b3 rfl ?_ | refine zC H b3 ?_ | refine zB H b4 rfl ?_ | refine zC H b4 ?_ | (apply zL H; (· repeat first | exact .h | apply AtK.t); (· rfl)) | (apply zA H; (· repeat first | exact .h | apply AtK.t)) | (apply zS H; (· repeat first | exact .h | apply AtK.t); (· rfl); (conv => whnf); clear H; intro τ H) | rw [List.length_map]); ((conv => whnf); (repeat ((first | with_reducible (first | refine zT rfl ?_ | refine zF rfl ?_ | refine zY rfl ?_) | refine zY (by decide) ?_ | refine zN (by decide) ?_ | with_reducible refine zQ ?_); (conv => whnf))))))
      exact aret (VLe.refl _) (Sub.refl _) ⟨by rw [hc], keep (by rw [hc]; decide) H⟩
    have hc : discCode q id = 0 := by unfold discCode; rw [if_neg hne, if_neg (by rw [hps]; exact hb)]
    have eQ : discQ q id = ⟨q.room, q.ts.eraseIdx i, q.taken, q.last⟩ := by unfold discQ; rw [if_pos hc, hps]
    have hti : i < q.ts.length := by omega
    have hte := tot_erase hti
    have hts : q.ts[i] = strip xs[i] := by
      have : (xs.map strip)[i]'(by rw [List.length_map]; exact hlt) = strip xs[i] := by simp
      rw [← this]; congr 1; exact hq.ts.symm
    have hlen2 : q.ts[i].2.length = xs[i].2.1.length := by rw [hts]; rfl
    have hea := hq.ok.each _ (List.getElem_mem hti)
    rw [hlen2] at hea hte
    by_cases hi0 : i = 0
    all_goals
      (repeat ((first | refine zI (by omega) ?_ | refine zE (by omega) (by omega) ?_ | refine zD (by omega) (by omega) ?_ | refine zY (by omega) ?_ | refine zN (by omega) ?_ | refine amin ?_ | refine amax ?_ | refine zU (by omega) ?_ | refine z8 (by omega) ?_ | refine zX (by omega) (by omega) ?_ | refine zR rfl ?_ | refine acellA ?_ | refine zB H b1 rfl ?_ | refine zC H b1 ?_ | refine zB H b2 rfl ?_ | refine zC H b2 ?_ | refine zB H b3 rfl ?_ | refine zC H b3 ?_ | refine zB H b4 rfl ?_ | refine zC H b4 ?_ | (apply zL H; (· repeat first | exact .h | apply AtK.t); (· rfl)) | (apply zA H; (· repeat first | exact .h | apply AtK.t)) | (apply zS H; (· repeat first | exact .h | apply AtK.t); (· rfl); (conv => whnf); clear H; intro τ H) | rw [List.length_map]); ((conv => whnf); (repeat ((first | with_reducible (first | refine zT rfl ?_ | refine zF rfl ?_ | refine zY rfl ?_) | refine zY (by decide) ?_ | refine zN (by decide) ?_ | with_reducible refine zQ ?_); (conv => whnf))))))
      refine aget (by omega) (get_txs rfl hlt) ?_
      ((conv => whnf); (repeat ((first | with_reducible (first | refine zT rfl ?_ | refine zF rfl ?_ | refine zY rfl ?_) | refine zY (by decide) ?_ | refine zN (by decide) ?_ | with_reducible refine zQ ?_); (conv => whnf))))
      (repeat ((first | refine zI (by omega) ?_ | refine zE (by omega) (by omega) ?_ | refine zD (by omega) (by omega) ?_ | refine zY (by omega) ?_ | refine zN (by omega) ?_ | refine amin ?_ | refine amax ?_ | refine zU (by omega) ?_ | refine z8 (by omega) ?_ | refine zX (by omega) (by omega) ?_ | refine zR rfl ?_ | refine acellA ?_ | refine zB H b1 rfl ?_ | refine zC H b1 ?_ | refine zB H b2 rfl ?_ | refine zC H b2 ?_ | refine zB H b3 rfl ?_ | refine zC H b3 ?_ | refine zB H b4 rfl ?_ | refine zC H b4 ?_ | (apply zL H; (· repeat first | exact .h | apply AtK.t); (· rfl)) | (apply zA H; (· repeat first | exact .h | apply AtK.t)) | (apply zS H; (· repeat first | exact .h | apply AtK.t); (· rfl); (conv => whnf); clear H; intro τ H) | rw [List.length_map]); ((conv => whnf); (repeat ((first | with_reducible (first | refine zT rfl ?_ | refine zF rfl ?_ | refine zY rfl ?_) | refine zY (by decide) ?_ | refine zN (by decide) ?_ | with_reducible refine zQ ?_); (conv => whnf))))))
      refine acut (by omega) (by omega) (by omega) ?_
      ((conv => whnf); (repeat ((first | with_reducible (first | refine zT rfl ?_ | refine zF rfl ?_ | refine zY rfl ?_) | refine zY (by decide) ?_ | refine zN (by decide) ?_ | with_reducible refine zQ ?_); (conv => whnf))))
      (repeat ((first | refine zI (by omega) ?_ | refine zE (by omega) (by omega) ?_ | refine zD (by omega) (by omega) ?_ | refine zY (by omega) ?_ | refine zN (by omega) ?_ | refine amin ?_ | refine amax ?_ | refine zU (by omega) ?_ | refine z8 (by omega) ?_ | refine zX (by omega) (by omega) ?_ | refine zR rfl ?_ | refine acellA ?_ | refine zB H b1 rfl ?_ | refine zC H b1 ?_ | refine zB H b2 rfl ?_ | refine zC H b2 ?_ | refine zB H b3 rfl ?_ | refine zC H b3 ?_ | refine zB H b4 rfl ?_ | refine zC H b4 ?_ | (apply zL H; (· repeat first | exact .h | apply AtK.t); (· rfl)) | (apply zA H; (· repeat first | exact .h | apply AtK.t)) | (apply zS H; (· repeat first | exact .h | apply AtK.t); (· rfl); (conv => whnf); clear H; intro τ H) | rw [List.length_map]); ((conv => whnf); (repeat ((first | with_reducible (first | refine zT rfl ?_ | refine zF rfl ?_ | refine zY rfl ?_) | refine zY (by decide) ?_ | refine zN (by decide) ?_ | with_reducible refine zQ ?_); (conv => whnf))))))
      refine acut (by omega) (by omega) (by omega) ?_
      ((conv => whnf); (repeat ((first | with_reducible (first | refine zT rfl ?_ | refine zF rfl ?_ | refine zY rfl ?_) | refine zY (by decide) ?_ | refine zN (by decide) ?_ | with_reducible refine zQ ?_); (conv => whnf))))
      (repeat ((first | refine zI (by omega) ?_ | refine zE (by omega) (by omega) ?_ | refine zD (by omega) (by omega) ?_ | refine zY (by omega) ?_ | refine zN (by omega) ?_ | refine amin ?_ | refine amax ?_ | refine zU (by omega) ?_ | refine z8 (by omega) ?_ | refine zX (by omega) (by omega) ?_ | refine zR rfl ?_ | refine acellA ?_ | refine zB H b1 rfl ?_ | refine zC H b1 ?_ | refine zB H b2 rfl ?_ | refine zC H b2 ?_ | refine zB H b3 rfl ?_ | refine zC H b3 ?_ | refine zB H b4 rfl ?_ | refine zC H b4 ?_ | (apply zL H; (· repeat first | exact .h | apply AtK.t); (· rfl)) | (apply zA H; (· repeat first | exact .h | apply AtK.t)) | (apply zS H; (· repeat first | exact .h | apply AtK.t); (· rfl); (conv => whnf); clear H; intro τ H) | rw [List.length_map]); ((conv => whnf); (repeat ((first | with_reducible (first | refine zT rfl ?_ | refine zF rfl ?_ | refine zY rfl ?_) | refine zY (by decide) ?_ | refine zN (by decide) ?_ | with_reducible refine zQ ?_); (conv => whnf))))))
      rw [show Int.toNat 0 = 0 from rfl, List.drop_zero, show ((i : Nat) : Int).toNat = i by omega, show ((i : Int) + 1).toNat = i + 1 by omega, show ((xs.length : Nat) : Int).toNat = xs.length by omega,
        show List.take xs.length (xs.map txV) = xs.map txV from List.take_of_length_le (by simp), ← List.map_take, ← List.map_drop]
      refine acall (conc (xs.take i) (xs.drop (i + 1)) _ _ _ _ (by rw [List.length_take]; omega) (by rw [List.length_drop]; omega)) ?_
      rintro v υ2 ⟨tk2, rfl, N⟩
      refine ⟨?_, N.ext⟩
      replace H := H.join N
      clear N
      ((conv => whnf); (repeat ((first | with_reducible (first | refine zT rfl ?_ | refine zF rfl ?_ | refine zY rfl ?_) | refine zY (by decide) ?_ | refine zN (by decide) ?_ | with_reducible refine zQ ?_); (conv => whnf))))
      (repeat ((first | refine zI (by omega) ?_ | refine zE (by omega) (by omega) ?_ | refine zD (by omega) (by omega) ?_ | refine zY (by omega) ?_ | refine zN (by omega) ?_ | refine amin ?_ | refine amax ?_ | refine zU (by omega) ?_ | refine z8 (by omega) ?_ | refine zX (by omega) (by omega) ?_ | refine zR rfl ?_ | refine acellA ?_ | refine zB H b1 rfl ?_ | refine zC H b1 ?_ | refine zB H b2 rfl ?_ | refine zC H b2 ?_ | refine zB H b3 rfl ?_ | refine zC H b3 ?_ | refine zB H b4 rfl ?_ | refine zC H b4 ?_ | (apply zL H; (· repeat first | exact .h | apply AtK.t); (· rfl)) | (apply zA H; (· repeat first | exact .h | apply AtK.t)) | (apply zS H; (· repeat first | exact .h | apply AtK.t); (· rfl); (conv => whnf); clear H; intro τ H) | rw [List.length_map]); ((conv => whnf); (repeat ((first | with_reducible (first | refine zT rfl ?_ | refine zF rfl ?_ | refine zY rfl ?_) | refine zY (by decide) ?_ | refine zN (by decide) ?_ | with_reducible refine zQ ?_); (conv => whnf))))))
      rw [eQ]
      refine aret (VLe.refl _) (Sub.refl _) ⟨by rw [hc], xs.take i ++ xs.drop (i + 1), tk2, m - xs[i].2.1.length, ?_, H⟩
      have hlx := List.length_eraseIdx_of_lt hti
      refine ⟨⟨r1, r2, by dsimp only; omega, fun t ht => hq.ok.each t (List.mem_of_mem_eraseIdx ht), ?_, by dsimp only; omega, hq.ok.last⟩, ?_, by dsimp only; omega⟩
      · dsimp only
        have hbg := hq.ok.begun
        cases i with
        | zero =>
          have ht0 : q.taken = 0 := by omega
          cases e : q.ts.eraseIdx 0 with
          | nil => exact ht0
          | cons t l =>
            show q.taken < t.2.length
            have := (hq.ok.each t (List.mem_of_mem_eraseIdx (by rw [e]; exact List.mem_cons_self ..))).1
            omega
        | succ i =>
          cases e : q.ts with
          | nil => rw [e] at hti; simp at hti
          | cons t l => rw [e] at hbg; exact hbg
      · dsimp only
        rw [List.eraseIdx_eq_take_drop_succ, ← hq.ts, List.map_append, List.map_take, List.map_drop]
  · rw [if_neg (show ¬ (strip xs[i]).1 = id from hid)] at hp
    refine abr_yes (fun h => hid (by omega)) ?_
    ((conv => whnf); (repeat ((first | with_reducible (first | refine zT rfl ?_ | refine zF rfl ?_ | refine zY rfl ?_) | refine zY (by decide) ?_ | refine zN (by decide) ?_ | with_reducible refine zQ ?_); (conv => whnf))))
    (repeat ((first | refine zI (by omega) ?_ | refine zE (by omega) (by omega) ?_ | refine zD (by omega) (by omega) ?_ | refine zY (by omega) ?_ | refine zN (by omega) ?_ | refine amin ?_ | refine amax ?_ | refine zU (by omega) ?_ | refine z8 (by omega) ?_ | refine zX (by omega) (by omega) ?_ | refine zR rfl ?_ | refine acellA ?_ | refine zB H b1 rfl ?_ | refine zC H b1 ?_ | refine zB H b2 rfl ?_ | refine zC H b2 ?_ | refine zB H b3 rfl ?_ | refine zC H b3 ?_ | refine zB H b4 rfl ?_ | refine zC H b4 ?_ | (apply zL H; (· repeat first | exact .h | apply AtK.t); (· rfl)) | (apply zA H; (· repeat first | exact .h | apply AtK.t)) | (apply zS H; (· repeat first | exact .h | apply AtK.t); (· rfl); (conv => whnf); clear H; intro τ H) | rw [List.length_map]); ((conv => whnf); (repeat ((first | with_reducible (first | refine zT rfl ?_ | refine zF rfl ?_ | refine zY rfl ?_) | refine zY (by decide) ?_ | refine zN (by decide) ?_ | with_reducible refine zQ ?_); (conv => whnf))))))
    refine ⟨i + 1, rfl, ⟨by omega, by omega⟩, by omega, Sub.refl _, ?_⟩
    ((conv => whnf); (repeat ((first | with_reducible (first | refine zT rfl ?_ | refine zF rfl ?_ | refine zY rfl ?_) | refine zY (by decide) ?_ | refine zN (by decide) ?_ | with_reducible refine zQ ?_); (conv => whnf))))
    (repeat' first | with_reducible exact EnvLe.refl _ | (refine EnvLe.node ?_ (by first | exact Or.inl rfl | exact Or.inr (Or.inl rfl) | exact Or.inr (Or.inr ⟨nofun, VLe.slice _ _ _⟩)) ?_))
theorem qDiscardNil (id : Nat) (σ : AHeap) : ACalls Try.prog i_queue_Queue_Discard [.v (.pointer none), u64v id] σ fun v σ' => v = i64v 6 ∧ σ' = σ := by
  refine k_queue_Queue_Discard rfl ?_
  ((conv => whnf); (repeat ((first | with_reducible (first | refine zT rfl ?_ | refine zF rfl ?_ | refine zY rfl ?_) | refine zY (by decide) ?_ | refine zN (by decide) ?_ | with_reducible refine zQ ?_); (conv => whnf))))
  refine ascope' (α := Unit) (fun _ => []) (fun _ => σ) (fun _ => 0) (fun _ => False) (fun _ => 0) ?_ ?_
  · ((conv => whnf); (repeat ((first | with_reducible (first | refine zT rfl ?_ | refine zF rfl ?_ | refine zY rfl ?_) | refine zY (by decide) ?_ | refine zN (by decide) ?_ | with_reducible refine zQ ?_); (conv => whnf))))
    intro hlab
    ((conv => whnf); (repeat ((first | with_reducible (first | refine zT rfl ?_ | refine zF rfl ?_ | refine zY rfl ?_) | refine zY (by decide) ?_ | refine zN (by decide) ?_ | with_reducible refine zQ ?_); (conv => whnf))))
    refine acall (qMadeNil σ) ?_
    rintro _ σ_ ⟨rfl, e_⟩
    obtain rfl := e_.symm
    refine ⟨?_, Ext.refl _⟩
    ((conv => whnf); (repeat ((first | with_reducible (first | refine zT rfl ?_ | refine zF rfl ?_ | refine zY rfl ?_) | refine zY (by decide) ?_ | refine zN (by decide) ?_ | with_reducible refine zQ ?_); (conv => whnf))))
    exact aret_same ⟨rfl, rfl⟩
  · intro _ h; exact h.elim
theorem qTakeNil (n : Int) (σ : AHeap) : ACalls Try.prog i_queue_Queue_Take [.v (.pointer none), i64v n] σ fun v σ' => v = .tup [sl .none [], boolv false, i64v 6] ∧ σ' = σ := by
  refine k_queue_Queue_Take rfl ?_
  ((conv => whnf); (repeat ((first | with_reducible (first | refine zT rfl ?_ | refine zF rfl ?_ | refine zY rfl ?_) | refine zY (by decide) ?_ | refine zN (by decide) ?_ | with_reducible refine zQ ?_); (conv => whnf))))
  refine acall (qMadeNil σ) ?_
  rintro _ σ_ ⟨rfl, e_⟩
  obtain rfl := e_.symm
  refine ⟨?_, Ext.refl _⟩
  ((conv => whnf); (repeat ((first | with_reducible (first | refine zT rfl ?_ | refine zF rfl ?_ | refine zY rfl ?_) | refine zY (by decide) ?_ | refine zN (by decide) ?_ | with_reducible refine zQ ?_); (conv => whnf))))
  exact aret VLe.tup_sl (Sub.refl _) ⟨rfl, rfl⟩
theorem qClear (hq : QT q xs m) (H : Hp σb (.o iq (.cells (qcl q xs tk m)) :: F) σ) : ACalls Try.prog i_queue_Queue_Clear [.ptr iq 0] σ fun v σ' => v = u64s .none (idsL q.ts) ∧ QT ⟨q.room, [], 0, q.last⟩ [] 0 ∧ Hp σb (.o iq (.cells (qcl ⟨q.room, [], 0, q.last⟩ [] .full 0)) :: F) σ' := by
  have r1 := hq.ok.room1
  refine k_queue_Queue_Clear rfl ?_
  ((conv => whnf); (repeat ((first | with_reducible (first | refine zT rfl ?_ | refine zF rfl ?_ | refine zY rfl ?_) | refine zY (by decide) ?_ | refine zN (by decide) ?_ | with_reducible refine zQ ?_); (conv => whnf))))
  refine acall (qIDs hq (H.get (k := 0) rfl)) ?_
  rintro _ σ_ ⟨rfl, e_⟩
  obtain rfl := e_.symm
  refine ⟨?_, Ext.refl _⟩
  ((conv => whnf); (repeat ((first | with_reducible (first | refine zT rfl ?_ | refine zF rfl ?_ | refine zY rfl ?_) | refine zY (by decide) ?_ | refine zN (by decide) ?_ | with_reducible refine zQ ?_); (conv => whnf))))
  refine acall (qMade hq (H.get (k := 0) rfl)) ?_
  rintro _ σ_ ⟨rfl, e_⟩
  obtain rfl := e_.symm
  refine ⟨?_, Ext.refl _⟩
  ((conv => whnf); (repeat ((first | with_reducible (first | refine zT rfl ?_ | refine zF rfl ?_ | refine zY rfl ?_) | refine zY (by decide) ?_ | refine zN (by decide) ?_ | with_reducible refine zQ ?_); (conv => whnf))))
  (repeat ((first | refine zI (by omega) ?_ | refine zE (by omega) (by omega) ?_ | refine zD (by omega) (by omega) ?_ | refine zY (by omega) ?_ | refine zN (by omega) ?_ | refine amin ?_ | refine amax ?_ | refine zU (by omega) ?_ | refine z8 (by omega) ?_ | refine zX (by omega) (by omega) ?_ | refine zR rfl ?_ | refine acellA ?_ | refine zB H b1 rfl ?_ | refine zC H b1 ?_ | refine zB H b2 rfl ?_ | refine zC H b2 ?_ | refine zB H b3 rfl ?_ | refine zC H b3 ?_ | refine zB H b4 rfl ?_ | refine zC H b4 ?_ | (apply zL H; (· repeat first | exact .h | apply AtK.t); (· rfl)) | (apply zA H; (· repeat first | exact .h | apply AtK.t)) | (apply zS H; (· repeat first | exact .h | apply AtK.t); (· rfl); (conv => whnf); clear H; intro τ H) | rw [List.length_map]); ((conv => whnf); (repeat ((first | with_reducible (first | refine zT rfl ?_ | refine zF rfl ?_ | refine zY rfl ?_) | refine zY (by decide) ?_ | refine zN (by decide) ?_ | with_reducible refine zQ ?_); (conv => whnf))))))
  refine aret (VLe.refl _) (Sub.refl _) ⟨rfl, ⟨⟨r1, hq.ok.room2, by simp, by simp, rfl, ?_, hq.ok.last⟩, rfl, rfl⟩, H⟩
  show (0 : Int) - 0 ≤ q.room
  omega
theorem qClearNil (σ : AHeap) : ACalls Try.prog i_queue_Queue_Clear [.v (.pointer none)] σ fun v σ' => v = .slice 1 [] .none ∧ σ' = σ := by
  refine k_queue_Queue_Clear rfl ?_
  ((conv => whnf); (repeat ((first | with_reducible (first | refine zT rfl ?_ | refine zF rfl ?_ | refine zY rfl ?_) | refine zY (by decide) ?_ | refine zN (by decide) ?_ | with_reducible refine zQ ?_); (conv => whnf))))
  refine acall (qIDsNil σ) ?_
  rintro _ σ_ ⟨rfl, e_⟩
  obtain rfl := e_.symm
  refine ⟨?_, Ext.refl _⟩
  ((conv => whnf); (repeat ((first | with_reducible (first | refine zT rfl ?_ | refine zF rfl ?_ | refine zY rfl ?_) | refine zY (by decide) ?_ | refine zN (by decide) ?_ | with_reducible refine zQ ?_); (conv => whnf))))
  refine acall (qMadeNil σ) ?_
  rintro _ σ_ ⟨rfl, e_⟩
  obtain rfl := e_.symm
  refine ⟨?_, Ext.refl _⟩
  ((conv => whnf); (repeat ((first | with_reducible (first | refine zT rfl ?_ | refine zF rfl ?_ | refine zY rfl ?_) | refine zY (by decide) ?_ | refine zN (by decide) ?_ | with_reducible refine zQ ?_); (conv => whnf))))
  exact aret_same ⟨rfl, rfl⟩
end
end Go.Proofs.Ytagbbpllbiplkaa
/-
  The statements of the queue: what lives.
-/
namespace Go.Proofs.Ytagbbpllbiplkaa
set_option linter.unusedVariables false
set_option linter.unusedSimpArgs false
open Go Go.Am

set_option maxRecDepth 20000 in
theorem alive04 (σ : AHeap) : ACalls Try.prog i_bowlinelaw04_alive [] σ fun v σ' => v = boolv true ∧ σ' = σ := by
  refine k_bowlinelaw04_alive rfl ?_
  ((conv => whnf); (repeat ((first | with_reducible (first | refine zT rfl ?_ | refine zF rfl ?_ | refine zY rfl ?_) | refine zY (by decide) ?_ | refine zN (by decide) ?_ | with_reducible refine zQ ?_); (conv => whnf))))
  refine acall (qNew 10 _ (by omega)) ?_
  rintro v τ ⟨iq, rfl, hq, H⟩
  refine ⟨?_, H.ext⟩
  ((conv => whnf); (repeat ((first | with_reducible (first | refine zT rfl ?_ | refine zF rfl ?_ | refine zY rfl ?_) | refine zY (by decide) ?_ | refine zN (by decide) ?_ | with_reducible refine zQ ?_); (conv => whnf))))
  refine arowT fun t ht => ?_
  ((conv => whnf); (repeat ((first | with_reducible (first | refine zT rfl ?_ | refine zF rfl ?_ | refine zY rfl ?_) | refine zY (by decide) ?_ | refine zN (by decide) ?_ | with_reducible refine zQ ?_); (conv => whnf))))
  refine amark (by simp) (upd_same _ _ _) ?_
  ((conv => whnf); (repeat ((first | with_reducible (first | refine zT rfl ?_ | refine zF rfl ?_ | refine zY rfl ?_) | refine zY (by decide) ?_ | refine zN (by decide) ?_ | with_reducible refine zQ ?_); (conv => whnf))))
  rw [show del (upd τ t AObj.tip) t = τ from del_upd _ _ _ ht]
  refine acall (qPush hq H [97, 98] .none (by decide) (by decide)) ?_
  clear hq H ht
  rintro v τ ⟨rfl, xs, tk, n, hq, H⟩
  rw [show pushQ ⟨10, [], 0, 0⟩ [97, 98] = ⟨10, [(1, [97, 98])], 0, 1⟩ by decide] at hq H
  rw [show pushCode ⟨10, [], 0, 0⟩ [97, 98] = 0 by decide, show pushId ⟨10, [], 0, 0⟩ [97, 98] = 1 by decide]
  ((conv => whnf); (repeat ((first | with_reducible (first | refine zT rfl ?_ | refine zF rfl ?_ | refine zY rfl ?_) | refine zY (by decide) ?_ | refine zN (by decide) ?_ | with_reducible refine zQ ?_); (conv => whnf))))
  refine acall (qTake hq H 1) ?_
  clear hq H
  rintro v τ ⟨rfl, xs, tk, n, hq, H⟩
  rw [show takeQ ⟨10, [(1, [97, 98])], 0, 1⟩ 1 = ⟨10, [(1, [97, 98])], 1, 1⟩ by decide] at hq H
  rw [show takeCode ⟨10, [(1, [97, 98])], 0, 1⟩ 1 = 0 by decide, show takeB ⟨10, [(1, [97, 98])], 0, 1⟩ 1 = [97] by decide, show takeAll ⟨10, [(1, [97, 98])], 0, 1⟩ 1 = false by decide]
  ((conv => whnf); (repeat ((first | with_reducible (first | refine zT rfl ?_ | refine zF rfl ?_ | refine zY rfl ?_) | refine zY (by decide) ?_ | refine zN (by decide) ?_ | with_reducible refine zQ ?_); (conv => whnf))))
  refine acall (qFront hq (H.get (k := 0) rfl)) ?_
  rintro _ σ_ ⟨rfl, e_⟩
  obtain rfl := e_.symm
  refine ⟨?_, Ext.refl _⟩
  ((conv => whnf); (repeat ((first | with_reducible (first | refine zT rfl ?_ | refine zF rfl ?_ | refine zY rfl ?_) | refine zY (by decide) ?_ | refine zN (by decide) ?_ | with_reducible refine zQ ?_); (conv => whnf))))
  refine acall (qDiscard hq H 1) ?_
  clear hq H
  rintro v τ ⟨rfl, xs, tk, n, hq, H⟩
  rw [show discQ ⟨10, [(1, [97, 98])], 1, 1⟩ 1 = ⟨10, [(1, [97, 98])], 1, 1⟩ by decide] at hq H
  rw [show discCode ⟨10, [(1, [97, 98])], 1, 1⟩ 1 = 7 by decide]
  ((conv => whnf); (repeat ((first | with_reducible (first | refine zT rfl ?_ | refine zF rfl ?_ | refine zY rfl ?_) | refine zY (by decide) ?_ | refine zN (by decide) ?_ | with_reducible refine zQ ?_); (conv => whnf))))
  refine acall (qTake hq H 1) ?_
  clear hq H
  rintro v τ ⟨rfl, xs, tk, n, hq, H⟩
  rw [show takeQ ⟨10, [(1, [97, 98])], 1, 1⟩ 1 = ⟨10, [], 0, 1⟩ by decide] at hq H
  rw [show takeCode ⟨10, [(1, [97, 98])], 1, 1⟩ 1 = 0 by decide, show takeB ⟨10, [(1, [97, 98])], 1, 1⟩ 1 = [98] by decide, show takeAll ⟨10, [(1, [97, 98])], 1, 1⟩ 1 = true by decide]
  ((conv => whnf); (repeat ((first | with_reducible (first | refine zT rfl ?_ | refine zF rfl ?_ | refine zY rfl ?_) | refine zY (by decide) ?_ | refine zN (by decide) ?_ | with_reducible refine zQ ?_); (conv => whnf))))
  refine ⟨rfl, ?_⟩
  refine amk (bytes := 1) (n := 11) (by omega) (by omega) (by omega) ?_
  ((conv => whnf); (repeat ((first | with_reducible (first | refine zT rfl ?_ | refine zF rfl ?_ | refine zY rfl ?_) | refine zY (by decide) ?_ | refine zN (by decide) ?_ | with_reducible refine zQ ?_); (conv => whnf))))
  refine acall (qPush hq H (List.replicate 11 0) .full (by decide) (by decide)) ?_
  clear hq H
  rintro v τ ⟨rfl, xs, tk, n, hq, H⟩
  rw [show pushQ ⟨10, [], 0, 1⟩ (List.replicate 11 0) = ⟨10, [], 0, 1⟩ by decide] at hq H
  rw [show pushCode ⟨10, [], 0, 1⟩ (List.replicate 11 0) = 5 by decide, show pushId ⟨10, [], 0, 1⟩ (List.replicate 11 0) = 0 by decide]
  ((conv => whnf); (repeat ((first | with_reducible (first | refine zT rfl ?_ | refine zF rfl ?_ | refine zY rfl ?_) | refine zY (by decide) ?_ | refine zN (by decide) ?_ | with_reducible refine zQ ?_); (conv => whnf))))
  refine astr (bs := [97]) rfl ?_
  ((conv => whnf); (repeat ((first | with_reducible (first | refine zT rfl ?_ | refine zF rfl ?_ | refine zY rfl ?_) | refine zY (by decide) ?_ | refine zN (by decide) ?_ | with_reducible refine zQ ?_); (conv => whnf))))
  refine astr (bs := [98]) rfl ?_
  ((conv => whnf); (repeat ((first | with_reducible (first | refine zT rfl ?_ | refine zF rfl ?_ | refine zY rfl ?_) | refine zY (by decide) ?_ | refine zN (by decide) ?_ | with_reducible refine zQ ?_); (conv => whnf))))
  refine acall (qBytes (H.get (k := 0) rfl)) ?_
  rintro _ σ_ ⟨rfl, e_⟩
  obtain rfl := e_.symm
  refine ⟨?_, Ext.refl _⟩
  ((conv => whnf); (repeat ((first | with_reducible (first | refine zT rfl ?_ | refine zF rfl ?_ | refine zY rfl ?_) | refine zY (by decide) ?_ | refine zN (by decide) ?_ | with_reducible refine zQ ?_); (conv => whnf))))
  have e : n = 0 := hq.n
  subst e
  ((conv => whnf); (repeat ((first | with_reducible (first | refine zT rfl ?_ | refine zF rfl ?_ | refine zY rfl ?_) | refine zY (by decide) ?_ | refine zN (by decide) ?_ | with_reducible refine zQ ?_); (conv => whnf))))
  exact aret (VLe.refl _) H.sub ⟨rfl, rfl⟩
end Go.Proofs.Ytagbbpllbiplkaa
