import PyProof.Rows.All
import Wide.All
import OpenK.AllK
import Wide.FinOn
import HandS.TupSets
import KE.SortData
import HandS.ForMost
import HandS.Exc
import HandS.TryOnly
import HandS.ExcOwn
import HandS.WordsExc
import HandS.Defaults
import HandS.IsInst
import HandS.Deep
import HandS.Flow
import HandS.TupAny
import HandS.Style
import HandS.Remove
import KE.KStateDown
import Lean
import HandS.Ends
import HandS.More
import HandS.Words
import HandS.Head0
import HandS.Head1
import HandS.Head2
import HandS.HeadEnd
import HandS.HeadHook1
import HandS.HeadHook2
import PySem.Challenge.RW_leavebook_k14_bars_and_what_is_trimmed
set_option Elab.async false
section
set_option Elab.async false
set_option linter.all false
set_option maxRecDepth 100000
namespace Lb.Sets
open PySem PySem.Spec PyProof.Rows L2
section
variable {P : Program} {w : World} {κ : Type} [DecidableEq κ] {kk : KeyKind P w κ} {A : Around} {E : Value → Shared → Prop} {s : Shared}

theorem item_class {v : Value} (c : carriedByValue v = true) (n : Nat) : ofAClassStatement n v = pure false := by
  cases v <;> first | (cases n <;> rfl) | (simp [carriedByValue] at c; done)
theorem item_hash {v : Value} (c : carriedByValue v = true) (n : Nat) : ∃ b, hashByValue n v = pure b := by
  cases v <;> first | (simp [carriedByValue] at c; done) | (cases n <;> exact ⟨_, rfl⟩)
theorem class_tup {k : List κ} {b : Addr} {Q : Bool → Shared → Prop} (x : IsTupleKey kk s.heap k b) (q : Q false s) : wpAny (model P w) A (ofAClassStatement 8 (.ref b)) Q E s := by
  have ty := x.typeIs
  obtain ⟨o, its, m, g, _, dt, el⟩ := x
  unfold ofAClassStatement
  refine wpAny_bind (wpAny_typeOf ty ?_)
  dsimp only
  simp only [show (("tuple" : String) == "tuple") = true by decide, if_true, Bool.not_true, Bool.false_eq_true, if_false]
  try refine wpAny_bind (wpAny_pure ?_)
  try simp only [Bool.not_true, Bool.false_eq_true, if_false]
  show wpAny _ _ (seqItems? (.ref b) >>= _) _ _ s
  refine wpAny_bind (wpAny_seqItems g dt ?_)
  dsimp only
  refine wpAny_bind ?_
  show wpAny _ _ (forIn its _ _) _ _ s
  rw [← Array.forIn_toList]
  refine wpAny_forIn_list _ (fun left r s1 => r.1 = none ∧ s1 = s ∧ ∀ v ∈ left, carriedByValue v = true) _ ?_ ?_ _ _ ⟨rfl, rfl, el.byValue⟩
  · rintro v left r s1 ⟨_, rfl, al⟩
    rw [item_class (al v List.mem_cons_self)]
    refine wpAny_bind (wpAny_pure ?_)
    simp only [Bool.false_eq_true, if_false]
    exact wpAny_pure ⟨rfl, rfl, fun u m => al u (List.mem_cons_of_mem _ m)⟩
  · rintro ⟨r1, r2⟩ s1 ⟨e, rfl, _⟩
    have e : r1 = none := e
    subst e
    exact wpAny_pure q
theorem hash_tup {k : List κ} {b : Addr} {Q : Bool → Shared → Prop} (x : IsTupleKey kk s.heap k b) (q : ∀ c, Q c s) : wpAny (model P w) A (hashByValue 8 (.ref b)) Q E s := by
  have ty := x.typeIs
  obtain ⟨o, its, m, g, _, dt, el⟩ := x
  unfold hashByValue
  refine wpAny_bind (wpAny_specialOf ty F.slot_tuple_hash.lookup ?_)
  show wpAny _ _ (seqItems? (.ref b) >>= _) _ _ s
  refine wpAny_bind (wpAny_seqItems g dt ?_)
  refine wpAny_bind ?_
  show wpAny _ _ (forIn its _ _) _ _ s
  rw [← Array.forIn_toList]
  refine wpAny_forIn_list _ (fun left r s1 => r.1 = none ∧ s1 = s ∧ ∀ v ∈ left, carriedByValue v = true) _ ?_ ?_ _ _ ⟨rfl, rfl, el.byValue⟩
  · rintro v left r s1 ⟨_, rfl, al⟩
    obtain ⟨c, e⟩ := item_hash (al v List.mem_cons_self) 7
    rw [e]
    refine wpAny_bind (wpAny_pure ?_)
    cases c with
    | true =>
      simp only [Bool.not_true, Bool.false_eq_true, if_false]
      exact wpAny_pure ⟨rfl, rfl, fun u m => al u (List.mem_cons_of_mem _ m)⟩
    | false =>
      simp only [Bool.not_false, if_true]
      exact wpAny_pure (wpAny_pure (q false))
  · rintro ⟨r1, r2⟩ s1 ⟨e, rfl, _⟩
    have e : r1 = none := e
    subst e
    exact wpAny_pure (q _)
theorem seen_none {k : List κ} {b : Addr} {Q : Bool → Shared → Prop} (x : IsTupleKey kk s.heap k b) {ys : List Value} (hy : ∀ y ∈ ys, ∃ k' c, y = Value.ref c ∧ IsTupleKey kk s.heap k' c) (q : Q false s) :
    wpAny (model P w) A (searchCouldBeSeen (.ref b) ys) Q E s := by
  unfold searchCouldBeSeen
  refine wpAny_bind ?_
  refine wpAny_forIn_list _ (fun left r s1 => r.1 = none ∧ s1 = s ∧ ∀ y ∈ left, ∃ k' c, y = Value.ref c ∧ IsTupleKey kk s.heap k' c) _ ?_ ?_ _ _ ⟨rfl, rfl, hy⟩
  · rintro v left r s1 ⟨_, rfl, al⟩
    obtain ⟨k', c, rfl, x'⟩ := al v List.mem_cons_self
    have al' := fun u m => al u (List.mem_cons_of_mem _ m)
    dsimp only
    by_cases hv : (b == c || (carriedByValue (.ref b) && carriedByValue (.ref c))) = true
    · exact wp_if_pos hv (wpAny_pure ⟨rfl, rfl, al'⟩)
    · refine wp_if_neg hv (wpAny_bind (wpAny_eqIsQuiet_tuple x ?_))
      simp only [Bool.not_true, Bool.false_eq_true, if_false]
      refine wpAny_bind (wpAny_eqIsQuiet_tuple x' ?_)
      simp only [Bool.not_true, Bool.false_eq_true, if_false]
      refine wpAny_bind (class_tup x ?_)
      simp only [Bool.false_eq_true, if_false]
      refine wpAny_bind (class_tup x' ?_)
      simp only [Bool.false_eq_true, if_false]
      exact wpAny_pure ⟨rfl, rfl, al'⟩
  · rintro ⟨r1, r2⟩ s1 ⟨e, rfl, _⟩
    have e : r1 = none := e
    subst e
    exact wpAny_pure q

abbrev Row (κ : Type) := List κ × Addr
def hk (kk : KeyKind P w κ) (k : List κ) : Int := tupleKeyHash kk k
def rows (kk : KeyKind P w κ) (L : List (Row κ)) : List (Int × Value) := L.map fun p => (hk kk p.1, Value.ref p.2)
structure TSet (kk : KeyKind P w κ) (h : Heap) (a : Addr) (L : List (Row κ)) (es : Array (Int × Value)) (ep : Nat) (t : SetTable) : Prop where
  ob : ∃ o, h.get? a = some o ∧ o.ExactSet ∧ o.data = .set es ep t
  rows : es.toList = rows kk L
  tab : TabOk t (L.map fun p => hk kk p.1)
  nd : (L.map (·.1)).Nodup
  tup : ∀ p ∈ L, IsTupleKey kk h p.1 p.2
  led : w.params.followText "set-order" = true ∨ t.led = true
  room : L.length * 5 < t.mask * 3
  few : L.length < 64
variable {a : Addr} {L : List (Row κ)} {es : Array (Int × Value)} {ep : Nat} {t : SetTable}
theorem rows_size {es : Array (Int × Value)} (e : es.toList = rows kk L) : es.size = L.length := by
  rw [← Array.length_toList, e]
  exact List.length_map _
theorem rows_at {es : Array (Int × Value)} (e : es.toList = rows kk L) {i : Nat} {p : Row κ} (h : L[i]? = some p) : es[i]? = some (hk kk p.1, Value.ref p.2) := by
  rw [← Array.getElem?_toList, e]
  show (L.map _)[i]? = _
  rw [List.getElem?_map, h]
  rfl
theorem tab_fits {hs : List Int} (T : TabOk t hs) {n : Nat} (e : n = hs.length) (l : hs.length ≤ t.mask) : t.fits n = true := by
  have h1 := T.sz
  unfold SetTable.fits SetTable.fill
  rw [T.dm, Bool.and_eq_true, beq_iff_eq, decide_eq_true_eq]
  refine ⟨by omega, ?_⟩
  show t.place.size + 0 ≤ t.mask
  omega
theorem TSet.fits {h : Heap} (R : TSet kk h a L es ep t) : t.fits es.size = true :=
  tab_fits R.tab (by rw [rows_size R.rows, List.length_map]) (by rw [List.length_map]; have := R.room; omega)
theorem TSet.steady {h : Heap} (R : TSet kk h a L es ep t) : ¬ t.gaveWay = true := by
  unfold SetTable.gaveWay
  rw [mask_odd R.tab.mok]
  decide
theorem mem_same (t : SetTable) : t.sameMemory t.moves t.mask = some true := by
  unfold SetTable.sameMemory
  exact if_pos (beq_self_eq_true _)
/-- the i-th step of a hash's way -/
abbrev stp (m : Nat) (H : Int) (i : Nat) : SetTable.Probe := nth m (runAt m (SetTable.bits H % (m + 1)) (SetTable.bits H)) i
theorem stp_dummy (m : Nat) : ∀ (n : Nat) (p : SetTable.Probe), p.dummy = none → (nth m p n).dummy = none
  | 0, _, h => h
  | n + 1, p, h => stp_dummy m n (adv m p) (by unfold adv; split <;> exact h)
theorem stp_add (m : Nat) (H : Int) (i j : Nat) : nth m (stp m H i) j = stp m H (i + j) := (nth_add m i _ j).symm
end
end Lb.Sets
end
section
set_option Elab.async false
set_option linter.all false
set_option maxRecDepth 100000
namespace Lb.Sets
open PySem PySem.Spec PyProof.Rows L2
section
variable {P : Program} {w : World} {κ : Type} [DecidableEq κ] {kk : KeyKind P w κ} {A : Around} {E : Value → Shared → Prop} {s : Shared}
variable {a : Addr} {L : List (Row κ)} {es : Array (Int × Value)} {ep : Nat} {t : SetTable}
theorem find_on (R : TSet kk s.heap a L es ep t) {k : List κ} {b : Addr} (x : IsTupleKey kk s.heap k b) (hu : A.units < cLine) {K : Nat} (hK : K < 10 * SetTable.turns t.mask)
    (free : (stp t.mask (hk kk k) K).j ∉ t.place.toList) (taken : ∀ c, c < K → (stp t.mask (hk kk k) c).j ∈ t.place.toList) {Q : SetFound → Shared → Prop}
    (yes : k ∈ L.map (·.1) → Q (.there none) s) (no : k ∉ L.map (·.1) → Q (.free (stp t.mask (hk kk k) K).j false) s) :
    ∀ (f c : Nat) (at_ : Option SetTable.Probe), at_.getD (t.probeStart (hk kk k)) = stp t.mask (hk kk k) c → c ≤ K → K - c < f →
      (∀ (i : Nat) p, L[i]? = some p → p.1 = k → ∃ c', c ≤ c' ∧ c' < K ∧ t.place.toList[i]? = some (stp t.mask (hk kk k) c').j) →
      wpAny (model P w) A (setSearchFrom a (.ref b) (hk kk k) true f at_) Q E s
  | 0, _, _, _, _, lt, _ => absurd lt (Nat.not_lt_zero _)
  | f + 1, c, at_, eat, le, lt, ahead => by
    obtain ⟨o, g, _, dt⟩ := R.ob
    rw [setSearchFrom_succ]
    refine wpAny_bind (wpAny_setState_of g dt R.fits ?_)
    dsimp only
    refine wp_if_neg R.steady ?_
    try refine wpAny_bind (wpAny_pure ?_)
    have jx : ∀ q, (nth t.mask (stp t.mask (hk kk k) c) q).j = (stp t.mask (hk kk k) (c + q)).j := fun q => congrArg SetTable.Probe.j (stp_add _ _ c q)
    have jK : (nth t.mask (stp t.mask (hk kk k) c) (K - c)).j = (stp t.mask (hk kk k) K).j := by rw [jx, show c + (K - c) = K by omega]
    have hashOf : ∀ (i : Nat) p, L[i]? = some p → (es[i]?.map (·.1)).getD 0 = hk kk p.1 := fun i p e => by rw [rows_at R.rows e]; rfl
    have spec := go_spec t R.tab.ris R.tab.dm (fun i => (es[i]?.map (·.1)).getD 0) (hk kk k) (10 * SetTable.turns t.mask) (K - c) (stp t.mask (hk kk k) c) (stp_dummy _ c _ rfl) (by omega)
      (fun q l => by rw [jx]; exact taken (c + q) (by omega)) (by rw [jK]; exact free)
    rcases spec with ⟨q, i, lq, pi, _, not, pr⟩ | ⟨not, pr⟩
    · rw [stp_add, stp_add] at pr
      rw [jx] at pi
      have pr2 : t.probe (fun i => (es[i]?.map (·.1)).getD 0) (hk kk k) (at_.getD (t.probeStart (hk kk k))) = some (.candidate (stp t.mask (hk kk k) (c + q)).j i (stp t.mask (hk kk k) (c + (q + 1)))) := by rw [eat]; exact pr
      rw [pr2]
      dsimp only
      have li : i < L.length := by
        have u1 := (List.getElem?_eq_some_iff.mp pi).1
        have u2 := R.tab.sz
        rw [List.length_map] at u2
        rw [Array.length_toList] at u1
        omega
      obtain ⟨p, ep⟩ : ∃ p, L[i]? = some p := ⟨_, List.getElem?_eq_getElem li⟩
      have mp := List.mem_of_getElem? ep
      have on : wpAny (model P w) A (searchRest a (.ref b) (hk kk k) true f es t (stp t.mask (hk kk k) (c + q)).j i (stp t.mask (hk kk k) (c + (q + 1)))) Q E s := by
        unfold searchRest
        rw [rows_at R.rows ep]
        dsimp only
        refine wpAny_bind (wpAny_holding (wpAny_eqBool_tuple hu (R.tup p mp) x (wpAny_bind (wpAny_setState_of g dt R.fits ?_))))
        dsimp only
        by_cases same : p.1 = k
        · exact wp_if_pos (by simp [same]) (wpAny_pure (yes (List.mem_map.mpr ⟨p, mp, same⟩)))
        · refine wp_if_neg (by simp [same]) ?_
          try refine wpAny_bind (wpAny_pure ?_)
          rw [mem_same]
          dsimp only
          have sl : t.slot (stp t.mask (hk kk k) (c + q)).j = .live i := slot_live R.tab.ris pi
          simp only [if_true, sl, rows_at R.rows ep]
          refine wpAny_bind (wpAny_isSame_ref_self (wpAny_bind (wpAny_pure ?_)))
          simp only [if_true]
          refine wp_if_neg (by simp [same]) ?_
          refine find_on R x hu hK free taken yes no f (c + (q + 1)) _ rfl (by omega) (by omega) fun i0 p0 e0 k0 => ?_
          obtain ⟨c', b1, b2, b3⟩ := ahead i0 p0 e0 k0
          refine ⟨c', ?_, b2, b3⟩
          by_cases z1 : c' < c + q
          · refine absurd ((hashOf i0 p0 e0).trans (by rw [k0])) (not (c' - c) i0 (by omega) ?_)
            rw [jx, show c + (c' - c) = c' by omega]
            exact b3
          · by_cases z2 : c' = c + q
            · subst z2
              have s0 := slot_live R.tab.ris b3
              rw [sl] at s0
              cases s0
              rw [ep] at e0
              cases e0
              exact absurd k0 same
            · omega
      by_cases hl : t.led = true
      · refine wp_if_neg (by simp [hl]) ?_
        try refine wpAny_bind (wpAny_pure ?_)
        exact on
      · refine wp_if_pos (by simp [hl]) (wpAny_bind (seen_none x (fun y hy => ?_) ?_))
        · obtain ⟨e, he, ee⟩ := List.mem_map.mp hy
          have m2 : e ∈ es.toList := by
            have : e ∈ es ∧ e.1 = hk kk k := by simpa using he
            simpa using this.1
          rw [R.rows] at m2
          obtain ⟨p2, m3, e2⟩ := List.mem_map.mp m2
          exact ⟨p2.1, p2.2, by rw [← ee, ← e2], R.tup p2 m3⟩
        · refine wp_if_neg (by decide) ?_
          try refine wpAny_bind (wpAny_pure ?_)
          exact on
    · rw [jK] at pr
      have pr2 : t.probe (fun i => (es[i]?.map (·.1)).getD 0) (hk kk k) (at_.getD (t.probeStart (hk kk k))) = some (.empty (stp t.mask (hk kk k) K).j none) := by rw [eat]; exact pr
      rw [pr2]
      dsimp only
      refine wpAny_pure (no fun hm => ?_)
      obtain ⟨p0, m0, k0⟩ := List.mem_map.mp hm
      obtain ⟨i0, l0, e0⟩ := List.getElem_of_mem m0
      have e00 : L[i0]? = some p0 := by rw [List.getElem?_eq_getElem l0, e0]
      obtain ⟨c', b1, b2, b3⟩ := ahead i0 p0 e00 k0
      refine absurd ((hashOf i0 p0 e00).trans (by rw [k0])) (not (c' - c) i0 (by omega) ?_)
      rw [jx, show c + (c' - c) = c' by omega]
      exact b3
theorem find_in (R : TSet kk s.heap a L es ep t) {k : List κ} {b : Addr} (x : IsTupleKey kk s.heap k b) (hu : A.units < cLine) {Q : SetFound → Shared → Prop} (yes : k ∈ L.map (·.1) → Q (.there none) s)
    (no : ∀ K, k ∉ L.map (·.1) → way t.mask (hk kk k) K ∉ t.place.toList → (∀ c, c < K → way t.mask (hk kk k) c ∈ t.place.toList) → Q (.free (way t.mask (hk kk k) K) false) s) :
    wpAny (model P w) A (setSearch a (.ref b) (hk kk k) true) Q E s := by
  have rm := R.room
  obtain ⟨K, k1, k2, k3⟩ := R.tab.first (by rw [List.length_map]; omega) (hk kk k)
  have small : K < 100000 := by
    have u : 10 * SetTable.turns t.mask ≤ 1420 := by
      unfold SetTable.turns
      rcases R.tab.mok with e | e | e <;> omega
    omega
  unfold setSearch
  refine find_on R x hu k1 k2 k3 yes (fun hn => no K hn k2 k3) 100000 0 none rfl (Nat.zero_le _) (by omega) fun i p e ek => ?_
  have lt : i < t.place.toList.length := by
    have u1 := (List.getElem?_eq_some_iff.mp e).1
    have u2 := R.tab.sz
    rw [List.length_map] at u2
    rw [Array.length_toList]
    omega
  have pj := List.getElem?_eq_getElem lt
  obtain ⟨c, lc, ec⟩ := R.tab.before (h := hk kk k) k2 (by rw [List.getElem?_map, e, ← ek]; rfl) pj
  exact ⟨c, Nat.zero_le _, lc, by rw [pj]; exact congrArg some ec.symm⟩
end
end Lb.Sets
end
section
set_option Elab.async false
set_option linter.all false
set_option maxRecDepth 100000
namespace Lb.Sets
open PySem PySem.Spec PyProof.Rows L2
theorem pick_all {α : Type} (l : List α) : (List.range l.length).filterMap (fun i => l[i]?) = l := by
  induction l with
  | nil => rfl
  | cons x l ih =>
    rw [List.length_cons, List.range_succ_eq_map, List.filterMap_cons_some (b := x) (by rfl), List.filterMap_map]
    exact congrArg _ ih
theorem pick_map {α β : Type} (g : α → β) (l : List α) : ∀ o : List Nat, o.filterMap (fun i => (l.map g)[i]?) = (o.filterMap fun i => l[i]?).map g
  | [] => rfl
  | i :: o => by
    have ih := pick_map g l o
    cases e : l[i]? with
    | none => rw [List.filterMap_cons_none (by rw [List.getElem?_map, e]; rfl), List.filterMap_cons_none e, ih]
    | some x => rw [List.filterMap_cons_some (by rw [List.getElem?_map, e]; rfl), List.filterMap_cons_some e, ih]; rfl
theorem pick_in {α β : Type} (g : α → β) (d : β) (l : List α) : ∀ o : List Nat, (∀ i ∈ o, i < l.length) → (o.filterMap fun i => l[i]?).map g = o.map fun i => (l.map g).getD i d
  | [], _ => rfl
  | i :: o, h => by
    have hi := h i List.mem_cons_self
    rw [List.filterMap_cons_some (List.getElem?_eq_getElem hi), List.map_cons, List.map_cons, pick_in g d l o fun j m => h j (List.mem_cons_of_mem _ m)]
    congr 1
    simp [hi]
section
variable {P : Program} {w : World} {κ : Type} [DecidableEq κ] {kk : KeyKind P w κ} {A : Around} {E : Value → Shared → Prop} {s : Shared}
variable {a : Addr} {L : List (Row κ)} {es : Array (Int × Value)} {ep : Nat} {t : SetTable}
theorem order_of {order : Array Nat} (e : es.toList = rows kk L) (pm : order.toList.Perm (List.range L.length)) :
    ∃ L2, (order.filterMap (es[·]?)).toList = rows kk L2 ∧ L2.Perm L ∧ (L2.map fun p => hk kk p.1) = order.toList.map fun i => (es.map (·.1)).getD i 0 := by
  refine ⟨order.toList.filterMap fun i => L[i]?, ?_, ?_, ?_⟩
  · rw [Array.toList_filterMap]
    have z : (fun (i : Nat) => es[i]?) = fun (i : Nat) => (rows kk L)[i]? := by
      funext i
      rw [← Array.getElem?_toList, e]
    rw [z]
    exact pick_map _ L _
  · have q := pm.filterMap (fun i => L[i]?)
    rw [pick_all] at q
    exact q
  · rw [pick_in (fun p => hk kk p.1) 0 L order.toList fun i m => List.mem_range.mp (pm.mem_iff.mp m)]
    congr 1
    funext i
    have z : es.map (·.1) = (L.map fun p => hk kk p.1).toArray := by
      apply Array.ext'
      rw [Array.toList_map, e]
      show ((L.map _).map _) = _
      rw [List.map_map]
      rfl
    rw [z]
    simp [Array.getD_eq_getD_getElem?, List.getD_eq_getElem?_getD]
theorem isT_but {h h' : Heap} {k : List κ} {b : Addr} {o : Obj} (x : IsTupleKey kk h k b) (g : h.get? a = some o) (d : o.data = .set es ep t) (sb : Heap.SameBut a h h') : IsTupleKey kk h' k b := by
  obtain ⟨o2, its, m, g2, c2, d2, e2⟩ := x
  have ne : b ≠ a := fun z => by
    subst z
    rw [g] at g2
    cases g2
    rw [d] at d2
    cases d2
  exact ⟨o2, its, m, (sb.2 b ne).trans g2, c2, d2, e2⟩
/-- the table is laid larger -/
theorem larger {o : Obj} (g : s.heap.get? a = some o) (ex : o.ExactSet) (d : o.data = .set es ep t) (er : es.toList = rows kk L) (T : TabOk t (L.map fun p => hk kk p.1)) (le : L.length ≤ t.mask)
    (nd : (L.map (·.1)).Nodup) (tp : ∀ p ∈ L, IsTupleKey kk s.heap p.1 p.2) (ld : w.params.followText "set-order" = true ∨ t.led = true) (few : L.length < 64) {n M : Nat}
    (eM : SetTable.sizeAbove n - 1 = M) (oM : MaskOk M) (n2 : SetTable.sizeAbove n ≤ 128) (lM : L.length * 5 < M * 3) {Q : Unit → Shared → Prop}
    (q : ∀ h' L' es' ep' t', Heap.SameBut a s.heap h' → TSet kk h' a L' es' ep' t' → L'.Perm L → Q () { s with heap := h' }) : wpAny (model P w) A (setRelay a n) Q E s := by
  have sz := rows_size er
  have fit : t.fits es.size = true := tab_fits T (by rw [sz, List.length_map]) (by rw [List.length_map]; exact le)
  obtain ⟨t', order, e1, pm, T', m', l', p', d'⟩ := relaid_ok t (hs := es.map (·.1)) (wanted := n) eM oM (by rw [Array.size_map, sz]; omega)
  rw [Array.size_map, sz] at pm
  obtain ⟨L2, r1, r2, r3⟩ := order_of er pm
  rw [← r3] at T'
  have sz2 : (order.filterMap (es[·]?)).size = es.size := by rw [rows_size r1, r2.length_eq, sz]
  rw [setRelay_eq]
  refine wpAny_bind (wpAny_setState_of g d fit ?_)
  dsimp only
  refine wp_if_neg (by rw [sizeLine_eq]; omega) ?_
  try refine wpAny_bind (wpAny_pure ?_)
  rw [e1]
  dsimp only
  refine wpAny_bind (wp_if_neg (by rw [sz2]; simp) ?_)
  try refine wpAny_bind (wpAny_pure ?_)
  refine wpAny_pure ?_
  dsimp only
  refine wpAny_storeSet_of g d ?_ (by rw [sz2, sz, sizeLine_eq]; omega)
  have sb : Heap.SameBut a s.heap (s.heap.update a (Obj.putSet (order.filterMap (es[·]?)) t')) := Heap.SameBut.update ..
  refine q _ L2 (order.filterMap (es[·]?)) (ep + 1) t' sb ⟨⟨_, store_at g d, ⟨ex.1, ex.2.1, ex.2.2⟩, rfl⟩, r1, T', (r2.map (·.1)).nodup_iff.mpr nd, fun p m => isT_but (tp p (r2.mem_iff.mp m)) g d sb, by rw [l']; exact ld, ?_, by rw [r2.length_eq]; exact few⟩ r2
  rw [r2.length_eq, m']
  exact lM
theorem put_list {α : Type} (l : List α) (p : Nat) (x : α) : (l.take p ++ x :: l.drop p).Perm (x :: l) := by
  have h : (l.take p ++ x :: l.drop p).Perm (x :: (l.take p ++ l.drop p)) := List.perm_middle
  rwa [List.take_append_drop] at h
/-- an element is put in -/
theorem put_in (R : TSet kk s.heap a L es ep t) {k : List κ} {b : Addr} (x : IsTupleKey kk s.heap k b) (hu : A.units < cLine) (few : L.length + 1 < 64) {Q : Bool → Shared → Prop}
    (q : ∀ c h' L' es' ep' t', Heap.SameBut a s.heap h' → TSet kk h' a L' es' ep' t' → (k ∈ L.map (·.1) → L' = L) → (k ∉ L.map (·.1) → L'.Perm ((k, b) :: L)) → Q c { s with heap := h' }) :
    wpAny (model P w) A (setAddHashed a (.ref b) (hk kk k)) Q E s := by
  obtain ⟨o, g, ex, d⟩ := R.ob
  have sz := rows_size R.rows
  have rm := R.room
  unfold setAddHashed
  refine wpAny_holding ?_
  rw [show (100000 : Nat) = 99999 + 1 from rfl, setAddHashedIn_succ]
  refine wpAny_bind (wpAny_setState_of g d R.fits ?_)
  dsimp only
  refine wp_if_neg (by simp [byScan, Value.scannable]) ?_
  try refine wpAny_bind (wpAny_pure ?_)
  refine wpAny_bind (find_in R x hu (fun hm => ?_) fun K hm free taken => ?_)
  · dsimp only
    exact wpAny_pure (q false s.heap L es ep t (Heap.SameBut.refl a s.heap) R (fun _ => rfl) fun z => absurd hm z)
  · dsimp only
    refine wpAny_bind (wpAny_setState_of g d R.fits ?_)
    dsimp only
    obtain ⟨z1, z2, z3, z4, z5, z6, z7, z8, z9⟩ := R.tab.put free taken
    generalize ept : t.put (way t.mask (hk kk k) K) = pt at z1 z3 z4 z5 z6 z7 z8 z9 ⊢
    obtain ⟨t1, p⟩ := pt
    dsimp only at z1 z3 z4 z5 z6 z7 z8 z9 ⊢
    subst z1
    -- whether its hash is by its value is of no weight
    have rest : ∀ c : Bool, wpAny (model P w) A (do
        storeSet a (SetTable.insertAt es (SetTable.below t.place (way t.mask (hk kk k) K)) (hk kk k, Value.ref b)) (if c = true then t1 else { t1 with plain := false })
        if (!false && (if c = true then t1 else { t1 with plain := false }).tooFull) = true then
          setRelay a (SetTable.grown (es.size + 1))
          return true
        else return true) Q E s := by
      intro c
      have Tc : TabOk (if c = true then t1 else { t1 with plain := false }) ((L.map fun p => hk kk p.1).take (SetTable.below t.place (way t.mask (hk kk k) K)) ++ hk kk k :: (L.map fun p => hk kk p.1).drop (SetTable.below t.place (way t.mask (hk kk k) K))) := by
        cases c with
        | true => exact z3
        | false => exact ⟨z3.ris, z3.dm, z3.sz, z3.mok, z3.bd, z3.reach⟩
      have mc : (if c = true then t1 else { t1 with plain := false }).mask = t.mask := by cases c <;> exact z4
      have lc : (if c = true then t1 else { t1 with plain := false }).led = t.led := by cases c <;> exact z5
      have fc : (if c = true then t1 else { t1 with plain := false }).fill = L.length + 1 := by
        rw [List.length_map] at z9
        cases c <;> exact z9
      generalize (if c = true then t1 else { t1 with plain := false }) = t2 at Tc mc lc fc ⊢
      have er : (SetTable.insertAt es (SetTable.below t.place (way t.mask (hk kk k) K)) (hk kk k, Value.ref b)).toList = rows kk (L.take (SetTable.below t.place (way t.mask (hk kk k) K)) ++ (k, b) :: L.drop (SetTable.below t.place (way t.mask (hk kk k) K))) := by
        rw [SetTable.toList_insertAt, R.rows]
        simp only [rows, List.map_append, List.map_cons, List.map_take, List.map_drop]
      generalize SetTable.below t.place (way t.mask (hk kk k) K) = p at z2 Tc er ⊢
      have pm := put_list L p (k, b)
      have len : (L.take p ++ (k, b) :: L.drop p).length = L.length + 1 := pm.length_eq
      have eh : (L.take p ++ (k, b) :: L.drop p).map (fun p => hk kk p.1) = (L.map fun p => hk kk p.1).take p ++ hk kk k :: (L.map fun p => hk kk p.1).drop p := by
        simp only [List.map_append, List.map_cons, List.map_take, List.map_drop]
      rw [← eh] at Tc
      have nd1 : ((L.take p ++ (k, b) :: L.drop p).map (·.1)).Nodup := (pm.map (·.1)).nodup_iff.mpr (List.nodup_cons.mpr ⟨hm, R.nd⟩)
      have sz1 := rows_size er
      generalize SetTable.insertAt es p (hk kk k, Value.ref b) = es1 at er sz1 ⊢
      generalize L.take p ++ (k, b) :: L.drop p = L1 at pm len Tc nd1 er sz1
      refine wpAny_bind (wpAny_storeSet_of g d ?_ (by rw [sz1, len, sizeLine_eq]; omega))
      have sb : Heap.SameBut a s.heap (s.heap.update a (Obj.putSet es1 t2)) := Heap.SameBut.update ..
      have g1 := store_at (es' := es1) (t' := t2) g d
      generalize s.heap.update a (Obj.putSet es1 t2) = h1 at sb g1 ⊢
      have tp1 : ∀ p ∈ L1, IsTupleKey kk h1 p.1 p.2 := fun p m => by
        rcases List.mem_cons.mp (pm.mem_iff.mp m) with e | m
        · rw [e]; exact isT_but x g d sb
        · exact isT_but (R.tup p m) g d sb
      have ld1 : w.params.followText "set-order" = true ∨ t2.led = true := by rw [lc]; exact R.led
      by_cases full : t2.tooFull = true
      · first
          | (refine wpAny_bind ?_; refine wp_if_pos (by simp [full]) ?_)
          | (refine wp_if_pos (by simp [full]) ?_; refine wpAny_bind ?_)
        have over : (L.length + 1) * 5 ≥ t2.mask * 3 := by
          have h := full
          unfold SetTable.tooFull at h
          rw [decide_eq_true_eq, fc] at h
          exact h
        rw [sz]
        have two : (t.mask = 7 ∧ L.length = 4) ∨ (t.mask = 31 ∧ L.length = 18) := by
          rw [mc] at over
          rcases R.tab.mok with e | e | e
          · rw [e] at over rm; exact .inl ⟨e, by omega⟩
          · rw [e] at over rm; exact .inr ⟨e, by omega⟩
          · rw [e] at over; omega
        have go : ∀ M, SetTable.sizeAbove (SetTable.grown (L.length + 1)) - 1 = M → MaskOk M → SetTable.sizeAbove (SetTable.grown (L.length + 1)) ≤ 128 → (L.length + 1) * 5 < M * 3 →
            wpAny (model P w) A (setRelay a (SetTable.grown (L.length + 1))) (fun _ s' => wpAny (model P w) A (pure true) Q E s') E { s with heap := h1 } := fun M y1 y2 y3 y4 => by
          refine larger (s := { s with heap := h1 }) g1 ⟨ex.1, ex.2.1, ex.2.2⟩ rfl er Tc (by rw [len, mc]; rcases two with ⟨e, e2⟩ | ⟨e, e2⟩ <;> omega) nd1 tp1 ld1 (by rw [len]; exact few) y1 y2 y3 (by rw [len]; exact y4) ?_
          intro h2 L2 es2 ep2 t3 sb2 R2 pm2
          exact wpAny_pure (q true h2 L2 es2 ep2 t3 (sb.trans sb2) R2 (fun z => absurd z hm) fun _ => pm2.trans pm)
        rcases two with ⟨_, e2⟩ | ⟨_, e2⟩
        · exact go 31 (by rw [e2, size_20]) (.inr (.inl rfl)) (by rw [e2, size_20]; decide) (by omega)
        · exact go 127 (by rw [e2, size_76]) (.inr (.inr rfl)) (by rw [e2, size_76]; decide) (by omega)
      · first
          | refine wp_if_neg (by simp [full]) ?_
          | (refine wpAny_bind ?_; refine wp_if_neg (by simp [full]) ?_; refine wpAny_pure ?_)
        refine wpAny_pure (q true h1 L1 es1 (ep + 1) t2 sb ⟨⟨_, g1, ⟨ex.1, ex.2.1, ex.2.2⟩, rfl⟩, er, Tc, nd1, tp1, ld1, ?_, by rw [len]; exact few⟩ (fun z => absurd z hm) fun _ => pm)
        have h := full
        unfold SetTable.tooFull at h
        rw [decide_eq_true_eq, fc] at h
        rw [len]
        omega
    by_cases c0 : t1.plain = true
    · exact wp_if_pos c0 (wpAny_bind (hash_tup x rest))
    · exact wp_if_neg c0 (wpAny_bind (wpAny_pure (rest true)))
end
end Lb.Sets
end
section
set_option Elab.async false
set_option linter.all false
set_option maxRecDepth 100000
namespace Lb.Sets
open PySem PySem.Spec PyProof.Rows L2
section
variable {P : Program} {w : World} {κ : Type} [DecidableEq κ] {kk : KeyKind P w κ} {Z : κ → Value → Prop} {A : Around} {E : Value → Shared → Prop} {s : Shared}
/-- the set at a holds the keys ks -/
structure FSet (kk : KeyKind P w κ) (Z : κ → Value → Prop) (h : Heap) (a : Addr) (ks : List κ) (es : Array (Int × Value)) (ep : Nat) (t : SetTable) : Prop where
  ob : ∃ o, h.get? a = some o ∧ o.ExactSet ∧ o.data = .set es ep t
  el : ElemsOf kk es.toList
  mem : ∀ k, k ∈ ks ↔ ∃ e ∈ es.toList, kk.is k e.2 = true
  size : es.size = ks.length
  nd : ks.Nodup
  fits : t.fits es.size = true
  ris : Ris t.place.toList
  led : w.params.followText "set-order" = true ∨ t.led = true
  few : ks.length < 64
  rep : ∃ L : List (κ × Value), L.map (·.1) = ks ∧ (es.toList.map (·.2)).Perm (L.map (·.2)) ∧ ∀ p ∈ L, Z p.1 p.2
variable {a : Addr} {ks : List κ} {es es1 : Array (Int × Value)} {ep : Nat} {t t1 : SetTable} {o : Obj}
theorem few_scan {n : Nat} (h : n < 64) : n < scanBound := by unfold scanBound; omega
/-- the elements are laid, the table at need larger -/
theorem laid {ks1 : List κ} (g : s.heap.get? a = some o) (ex : o.ExactSet) (d : o.data = .set es ep t) (el : ElemsOf kk es1.toList) (mem : ∀ k, k ∈ ks1 ↔ ∃ e ∈ es1.toList, kk.is k e.2 = true) (sz : es1.size = ks1.length) (nd : ks1.Nodup)
    (fit : t1.fits es1.size = true) (ri : Ris t1.place.toList) (ld : w.params.followText "set-order" = true ∨ t1.led = true) (few : ks1.length < 64) (rep : ∃ L : List (κ × Value), L.map (·.1) = ks1 ∧ (es1.toList.map (·.2)).Perm (L.map (·.2)) ∧ ∀ p ∈ L, Z p.1 p.2) {gw : Bool → Sem Unit} {wd : Bool}
    (hg : ∀ (c : Bool) (s1 : Shared) (Q1 : Unit → Shared → Prop), Q1 () s1 → wpAny (model P w) A (gw c) Q1 E s1) {Q : Option Bool → Shared → Prop}
    (q : ∀ h' es' ep' t', Heap.SameBut a s.heap h' → FSet kk Z h' a ks1 es' ep' t' → Q (some true) { s with heap := h' }) :
    wpAny (model P w) A (do
        storeSet a es1 t1
        if (!wd && t1.tooFull) = true then do
            gw (relayAll t1 es1 (SetTable.grown es1.size)).2.2
            storeSet a (relayAll t1 es1 (SetTable.grown es1.size)).1 (relayAll t1 es1 (SetTable.grown es1.size)).2.1
            pure (some true)
          else pure (some true)) Q E s := by
  have lim : es1.size ≤ sizeLine := by rw [sz, sizeLine_eq]; omega
  refine wpAny_bind (wpAny_storeSet_of g d ?_ lim)
  have g1 := store_at (es' := es1) (t' := t1) g d
  have sb := Heap.SameBut.update s.heap a (Obj.putSet es1 t1)
  by_cases c : (!wd && t1.tooFull) = true
  · refine wp_if_pos c (wpAny_bind (hg _ _ _ ?_))
    have pm := relayAll_perm t1 es1 (SetTable.grown es1.size)
    have fr := relayAll_fits t1 es1 (SetTable.grown es1.size)
    have rr := relayAll_ris t1 es1 (SetTable.grown es1.size)
    have lr := relayAll_led t1 es1 (SetTable.grown es1.size)
    generalize relayAll t1 es1 (SetTable.grown es1.size) = R at pm fr rr lr ⊢
    have sz2 : R.1.size = es1.size := by rw [← Array.length_toList, pm.length_eq, Array.length_toList]
    refine wpAny_bind (wpAny_storeSet_of g1 rfl ?_ (by rw [sz2]; exact lim))
    refine wpAny_pure (q _ R.1 _ R.2.1 (sb.trans (Heap.SameBut.update _ a _)) ⟨⟨_, store_at g1 rfl, ⟨ex.1, ex.2.1, ex.2.2⟩, rfl⟩, el.perm pm, fun k => (mem k).trans ⟨fun ⟨e, m, z⟩ => ⟨e, pm.mem_iff.mpr m, z⟩, fun ⟨e, m, z⟩ => ⟨e, pm.mem_iff.mp m, z⟩⟩, by rw [sz2, sz], nd, fr, rr, by rw [lr]; exact ld, few, by
      obtain ⟨L, l1, l2, l3⟩ := rep
      exact ⟨L, l1, (pm.map (·.2)).trans l2, l3⟩⟩)
  · exact wp_if_neg c (wpAny_pure (q _ es1 _ t1 sb ⟨⟨_, g1, ⟨ex.1, ex.2.1, ex.2.2⟩, rfl⟩, el, mem, sz, nd, fit, ri, ld, few, rep⟩))
theorem put_flat (R : FSet kk Z s.heap a ks es ep t) {k : κ} {x : Value} (hx : kk.is k x = true) (sc : x.scannable = true) (zx : Z k x) (few : ks.length + 1 < 64) {Q : Bool → Shared → Prop}
    (q : ∀ c h' ks' es' ep' t', Heap.SameBut a s.heap h' → FSet kk Z h' a ks' es' ep' t' → (k ∈ ks → ks' = ks) → (k ∉ ks → ks' = k :: ks) → Q c { s with heap := h' }) :
    wpAny (model P w) A (setAddHashed a x (kk.hash k)) Q E s := by
  obtain ⟨o, g, ex, d⟩ := R.ob
  have gives : ∀ (b : Bool) {s₁ : Shared} {Q' : Unit → Shared → Prop}, Q' () s₁ → wpAny (model P w) A (match b with | true => rule "set.scan.the-table-gave-way" | false => pure ()) Q' E s₁ :=
    fun b s₁ Q' hq => by cases b <;> first | exact wpAny_pure hq | exact wpAny_rule hq
  unfold setAddHashed setAddHashedIn
  refine wpAny_holding (wpAny_bind (wpAny_setState_of g d R.fits ?_))
  dsimp only
  rw [byScan_of sc (few_scan (by rw [R.size]; exact R.few)) R.el]
  simp only [if_true]
  unfold setAddByScan
  refine wpAny_bind (wpAny_bind (wpAny_rule (wpAny_bind (wpAny_setScan_of hx g d R.fits R.el ?_))))
  cases hr : List.findIdx? (fun e => kk.is k e.2) es.toList with
  | some j =>
    dsimp only
    obtain ⟨lj, pj, _⟩ := List.findIdx?_eq_some_iff_getElem.mp hr
    have hm : k ∈ ks := (R.mem k).mpr ⟨es.toList[j], List.getElem_mem lj, pj⟩
    exact wpAny_pure (wpAny_pure (q false s.heap ks es ep t (Heap.SameBut.refl a s.heap) R (fun _ => rfl) fun z => absurd hm z))
  | none =>
    dsimp only
    have hm : k ∉ ks := fun z => by
      obtain ⟨e, m, z⟩ := (R.mem k).mp z
      have := List.findIdx?_eq_none_iff.mp hr e m
      rw [z] at this
      cases this
    have pm := layNew_perm t es (kk.hash k) x
    have fl := layNew_fits t es (kk.hash k) x
    have rl := layNew_ris t es (kk.hash k) x R.ris
    have ll := layNew_led t es (kk.hash k) x
    generalize layNew t es (kk.hash k) x = Lw at pm fl rl ll ⊢
    obtain ⟨es1, t1, wd, gave⟩ := Lw
    dsimp only at pm fl rl ll ⊢
    rw [Array.toList_push] at pm
    have el1 : ElemsOf kk es1.toList := (R.el.push hx sc).perm pm
    have mem1 : ∀ j, j ∈ k :: ks ↔ ∃ e ∈ es1.toList, kk.is j e.2 = true := fun j => by
      constructor
      · intro m
        rcases List.mem_cons.mp m with z | z
        · subst z; exact ⟨(kk.hash j, x), pm.mem_iff.mpr (List.mem_append_right _ (List.mem_singleton.mpr rfl)), hx⟩
        · obtain ⟨e, m2, z2⟩ := (R.mem j).mp z
          exact ⟨e, pm.mem_iff.mpr (List.mem_append_left _ m2), z2⟩
      · rintro ⟨e, m2, z2⟩
        rcases List.mem_append.mp (pm.mem_iff.mp m2) with z | z
        · exact List.mem_cons_of_mem _ ((R.mem j).mpr ⟨e, z, z2⟩)
        · rw [List.mem_singleton.mp z] at z2
          rw [kk.inj x j k z2 hx]
          exact List.mem_cons_self
    have sz1 : es1.size = (k :: ks).length := by rw [← Array.length_toList, pm.length_eq, List.length_append, Array.length_toList, R.size]; rfl
    have nd1 : (k :: ks).Nodup := List.nodup_cons.mpr ⟨hm, R.nd⟩
    have rep1 : ∃ L : List (κ × Value), L.map (·.1) = k :: ks ∧ (es1.toList.map (·.2)).Perm (L.map (·.2)) ∧ ∀ p ∈ L, Z p.1 p.2 := by
      obtain ⟨L, l1, l2, l3⟩ := R.rep
      refine ⟨(k, x) :: L, by rw [List.map_cons, l1], ?_, fun p m => ?_⟩
      · have z := pm.map (·.2)
        rw [List.map_append] at z
        exact z.trans ((List.perm_append_comm).trans (l2.cons x))
      · rcases List.mem_cons.mp m with e | m
        · rw [e]; exact zx
        · exact l3 p m
    refine wpAny_bind (gives _ ?_)
    have fin : ∀ h' es' ep' t', Heap.SameBut a s.heap h' → FSet kk Z h' a (k :: ks) es' ep' t' → Q true { s with heap := h' } := fun h' es' ep' t' sb F => q true h' _ es' ep' t' sb F (fun z => absurd z hm) fun _ => rfl
    split
    · refine wpAny_bind ?_
      rw [hashByValue_scannable 8 sc]
      refine wpAny_pure ?_
      refine laid g ex d el1 mem1 sz1 nd1 ?_ ?_ ?_ few rep1 (fun c s1 Q1 h1 => gives c h1) fun h' es' ep' t' sb F => wpAny_pure (fin h' es' ep' t' sb F)
      · split
        · exact fl
        · exact SetTable.fits_plain_off fl
      · split
        · exact rl
        · exact rl
      · split
        · rw [ll]; exact R.led
        · exact (by rw [show ({ t1 with plain := false } : SetTable).led = t1.led from rfl, ll]; exact R.led)
    · refine wpAny_bind (wpAny_pure ?_)
      simp only [if_true]
      exact laid g ex d el1 mem1 sz1 nd1 fl rl (by rw [ll]; exact R.led) few rep1 (fun c s1 Q1 h1 => gives c h1) fun h' es' ep' t' sb F => wpAny_pure (fin h' es' ep' t' sb F)
end
end Lb.Sets
end
section
set_option Elab.async false
set_option linter.all false
set_option maxRecDepth 100000
namespace Lb.Sets
open PySem PySem.Spec PyProof.Rows L2
theorem perm_map {α β : Type} {g : α → β} : ∀ {out M : List β}, out.Perm M → ∀ {L : List α}, M = L.map g → ∃ L' : List α, L'.Perm L ∧ out = L'.map g := by
  intro out M pm
  induction pm with
  | nil =>
    intro L e
    cases L with
    | nil => exact ⟨[], List.Perm.refl _, rfl⟩
    | cons => cases e
  | @cons x l1 l2 _ ih =>
    intro L e
    cases L with
    | nil => cases e
    | cons y L =>
      rw [List.map_cons] at e
      cases e
      obtain ⟨L', a, b⟩ := ih rfl
      exact ⟨y :: L', a.cons y, by rw [b]; rfl⟩
  | swap x y l =>
    intro L e
    match L, e with
    | u :: v :: L, e =>
      rw [List.map_cons, List.map_cons] at e
      cases e
      exact ⟨v :: u :: L, List.Perm.swap u v L, rfl⟩
  | trans _ _ ih1 ih2 =>
    intro L e
    obtain ⟨L2, a, b⟩ := ih2 e
    obtain ⟨L3, a2, b2⟩ := ih1 b
    exact ⟨L3, a2.trans a, b2⟩
abbrev Keeps (h h' : Heap) : Prop := ∀ b o, h.get? b = some o → h'.get? b = some o
def freshSet (w : World) : Obj := { cls := .type "set", dict := none, data := .set #[] 0 (.fresh 0 0 (!w.params.followText "set-order")) }
/-- a kind of keys whose sets are known -/
structure SK (P : Program) (w : World) (κ : Type) where
  is : Heap → κ → Value → Prop
  enc : κ → PyData
  at_ : Heap → Heap → Addr → List κ → Prop
  mono : ∀ {h h' k v}, is h k v → Keeps h h' → is h' k v
  reads : ∀ {h k v}, is h k v → Reads h v (enc k) []
  new : ∀ (h0 h : Heap), at_ h0 (h.push (freshSet w)) h.objs.size []
  keep : ∀ {h0 h h' a ks}, at_ h0 h a ks → (∀ o, h.get? a = some o → h'.get? a = some o) → Keeps h0 h' → at_ h0 h' a ks
  nd : ∀ {h0 h a ks}, at_ h0 h a ks → ks.Nodup
  add : ∀ {A : Around} {E : Value → Shared → Prop} {s : Shared} {h0 : Heap} {a : Addr} {ks : List κ} {k : κ} {v : Value} {Q : Bool → Shared → Prop}, at_ h0 s.heap a ks → Keeps h0 s.heap → h0.get? a = none → is h0 k v → ks.length + 1 < 64 → A.units < cLine →
    (∀ c h' tk ks', Heap.SameBut a s.heap h' → s.toks ≤ tk → at_ h0 h' a ks' → (k ∈ ks → ks'.Perm ks) → (k ∉ ks → ks'.Perm (k :: ks)) → Q c { s with heap := h', toks := tk }) → wpAny (model P w) A (setAdd a v) Q E s
  out : ∀ {h0 h : Heap} {a : Addr} {ks : List κ}, at_ h0 h a ks → ∃ es ep t, (∃ o, h.get? a = some o ∧ o.ExactSet ∧ o.data = .set es ep t) ∧ t.fits es.size = true ∧ es.size < scanBound ∧ Ris t.place.toList ∧ (w.params.followText "set-order" = true ∨ t.led = true) ∧
    ∃ L : List (κ × Value), (L.map (·.1)).Perm ks ∧ (es.toList.map (·.2)).Perm (L.map (·.2)) ∧ ∀ p ∈ L, is h0 p.1 p.2
section
variable {P : Program} {w : World} {A : Around} {E : Value → Shared → Prop} {s : Shared}
/-- which keys are in behind the first i -/
structure Gath {κ : Type} (ks : List κ) (i : Nat) (L : List κ) : Prop where
  mem : ∀ k, k ∈ L ↔ k ∈ ks.take i
  len : L.length ≤ i
theorem Gath.zero {κ : Type} (ks : List κ) : Gath ks 0 [] := ⟨fun k => by simp, Nat.le_refl _⟩
theorem take_one {α : Type} {l : List α} {i : Nat} {x : α} (h : l[i]? = some x) : l.take (i + 1) = l.take i ++ [x] := by
  rw [List.take_succ, h]
  rfl
theorem Gath.next {κ : Type} {ks L L' : List κ} {i : Nat} {k : κ} (g : Gath ks i L) (h : ks[i]? = some k) (h1 : k ∈ L → L'.Perm L) (h2 : k ∉ L → L'.Perm (k :: L)) : Gath ks (i + 1) L' := by
  rcases Classical.em (k ∈ L) with c | c
  · have pm := h1 c
    refine ⟨fun j => ?_, by rw [pm.length_eq]; have := g.len; omega⟩
    rw [pm.mem_iff, g.mem, take_one h, List.mem_append, List.mem_singleton]
    exact ⟨.inl, fun z => z.elim id fun e => by rw [e]; exact (g.mem k).mp c⟩
  · have pm := h2 c
    refine ⟨fun j => ?_, by rw [pm.length_eq, List.length_cons]; have := g.len; omega⟩
    rw [pm.mem_iff, List.mem_cons, g.mem, take_one h, List.mem_append, List.mem_singleton, or_comm]
theorem gather {κ : Type} {T : SK P w κ} {I : Addr} {fp wr : List Addr} {G : Array GenState → Array GenState → Prop} {n : Nat} {Pv : Nat → Value → Prop} {St : Nat → Shared → Prop} {R : Result → Shared → Prop}
    (W : WalksS P w A.in1 I fp wr G n Pv St) (S : Addr) (hS : S ∉ fp) (ks : List κ) (en : n = ks.length) (few : ks.length < 64)
    (h0 : Heap) (isk : ∀ i v, Pv i v → ∃ k, ks[i]? = some k ∧ T.is h0 k v) (S0 : h0.get? S = none) (wr0 : ∀ b ∈ wr, h0.get? b = none) (hu : A.in1.units < cLine) :
    ∀ (m i : Nat) (s : Shared), n - i = m → i ≤ n → St i s → Keeps h0 s.heap → (∃ L, T.at_ h0 s.heap S L ∧ Gath ks i L) →
      (∀ s' L, Moved (S :: wr) G s s' → T.at_ h0 s'.heap S L → Gath ks n L → Keeps h0 s'.heap → R (.ok (.ret .none)) s') →
      codeAny (model P w) A (.builtin "set.update.loop" ⟨[.ref S, .ref I], []⟩) R s := by
  have nw : S ∉ wr := fun h => hS (W.sub _ h)
  have up : ∀ b ∈ wr, b ∈ S :: wr := fun b hb => List.mem_cons_of_mem _ hb
  have kp : ∀ {s s' : Shared}, Moved wr G s s' → Keeps h0 s.heap → Keeps h0 s'.heap := fun mv k b o e => mv.heap b o (fun hb => by rw [wr0 b hb] at e; cases e) (k b o e)
  intro m
  induction m with
  | zero =>
    intro i s em hi st k0 ⟨L, hL, g⟩ hR
    have e : i = n := by omega
    subst e
    refine codeAny_builtin F.entry_set_update_loop ?_
    rw [Around.under_plainId F.plain_set_update_loop _]
    show wpAny _ A.in1 (pyNext (.ref I) >>= _) _ _ s
    refine wpAny_bind (W.done s _ _ st fun s' mv => ?_)
    show wpAny _ A.in1 (ret Value.none) _ _ s'
    exact wpAny_pure (hR s' L (mv.mono up) (T.keep hL (fun o e => mv.heap S o nw e) (kp mv k0)) g (kp mv k0))
  | succ m ih =>
    intro i s em hi st k0 ⟨L, hL, g⟩ hR
    have lt : i < n := by omega
    refine codeAny_builtin F.entry_set_update_loop ?_
    rw [Around.under_plainId F.plain_set_update_loop _]
    show wpAny _ A.in1 (pyNext (.ref I) >>= _) _ _ s
    refine wpAny_bind (W.item i s _ _ lt st fun v s' hP st' mv => ?_)
    obtain ⟨k, ek, ik⟩ := isk i v hP
    have k1 := kp mv k0
    have hL1 : T.at_ h0 s'.heap S L := T.keep hL (fun o e => mv.heap S o nw e) k1
    show wpAny _ A.in1 (holding [v] (setAdd S v) >>= _) _ _ s'
    refine wpAny_bind (wpAny_holding (T.add hL1 k1 S0 ik (by have := g.len; omega) hu fun c h' tk L' sb le hL' c1 c2 => ?_))
    have k2 : Keeps h0 h' := fun b o e => (sb.2 b (fun z => by rw [z, S0] at e; cases e)).trans (k1 b o e)
    refine wpAny_pure ⟨plainId_quiet F.plain_set_update_loop _, ih (i + 1) _ (by omega) lt (W.frame _ s' _ _ st' le fun b hb o e => ?_) k2 ⟨L', hL', g.next ek c1 c2⟩ fun s2 L2 mv2 hL2 g2 k3 => ?_⟩
    · rw [sb.2 b (fun h : b = S => hS (by rw [← h]; exact hb))]; exact e
    · refine hR s2 L2 (Moved.trans W.gtrans ((mv.mono up).then_heap le fun b o hb e => ?_) mv2) hL2 g2 k3
      rw [sb.2 b (fun h : b = S => hb (by rw [h]; exact List.mem_cons_self))]; exact e
end
end Lb.Sets
end
section
set_option Elab.async false
set_option linter.all false
set_option maxRecDepth 100000
namespace Lb.Sets
open PySem PySem.Spec PyProof.Rows L2
section
variable {P : Program} {w : World} {A : Around} {E : Value → Shared → Prop} {s : Shared}
theorem none_at {h : Heap} {b : Addr} (le : h.objs.size ≤ b) : h.get? b = none := by
  cases q : h.get? b with
  | none => rfl
  | some o => exact absurd (Nat.lt_of_lt_of_le (Heap.lt_size q) le) (Nat.lt_irrefl _)
set_option maxHeartbeats 3200000 in
/-- set(xs), the things of xs being keys of a kind -/
theorem call_set {κ : Type} (T : SK P w κ) {l : Addr} {its : Array Value} (ks : List κ) {Q : Value → Shared → Prop} (hh : A.handled = none) (hl : s.heap.IsList l its) (sz : its.size = ks.length)
    (isk : ∀ (i : Nat) v, its[i]? = some v → ∃ k, ks[i]? = some k ∧ T.is s.heap k v) (few : ks.length < 64) (hu : A.units + 3 < cLine)
    (q : ∀ (h' : Heap) (tk : Nat) L, T.at_ s.heap h' s.heap.objs.size L → Gath ks ks.length L → Keeps s.heap h' → Q (.ref s.heap.objs.size) { s with heap := h', toks := tk }) :
    wpAny (model P w) A (call (.type "set") [.ref l]) Q E s := by
  obtain ⟨c, tl, hmro⟩ := F.called_set.mro
  have made := F.called_set.made
  have subs := F.called_set.sub
  refine wpAny_call (codeAny_of_tree ?_)
  show wpAny _ _ (callAny (.type "set") _) _ _ _
  refine wpAny_pure ⟨Code.quiet_builtin _ (by decide +kernel), codeAny_builtin F.entry_type_call ?_⟩
  rw [Around.under_plain (weight_type_call_type "set" [.ref l] []) rfl]
  have nt := F.called_set.notType
  have cc := F.called_set.canCreate
  have tc := F.typeCall_set_1 (.ref l)
  repeat (any_goals (first | assumption | wp_step))
  refine codeAny_mono (code_set_led1 (.ref l) (E := E) (Q₁ := fun ob s1 => ob = .ref s.heap.objs.size ∧ s1 = { s with heap := s.heap.push (freshSet w) }) ⟨rfl, rfl⟩) fun r s1 hr => ?_
  cases r with
  | error e => exact hr
  | ok fl =>
    cases fl with
    | ret ob =>
      obtain ⟨rfl, rfl⟩ := hr
      have at0 : (s.heap.push (freshSet w)).get? s.heap.objs.size = some (freshSet w) := Heap.get?_push_size _ rfl
      have ty : Shared.TypeIs { s with heap := s.heap.push (freshSet w) } (.ref s.heap.objs.size) "set" := ⟨_, at0, rfl⟩
      have li := F.called_set.init.lookup
      have bi := F.called_set.init.bind (.ref s.heap.objs.size)
      repeat (any_goals (first | assumption | wp_step))
      refine codeAny_mono (codeAny_call_builtin (R := wants (fun r s2 => r = .none ∧ ∃ h' tk L, s2 = { s with heap := h', toks := tk } ∧ T.at_ s.heap h' s.heap.objs.size L ∧ Gath ks ks.length L ∧ Keeps s.heap h') E) F.called_set.init.plain F.entry_set_init (check_set_init_1 ty ?_)) fun r2 s2 hr2 => ?_
      · obtain ⟨ol, gl, cl, nl, dl⟩ := hl
        obtain ⟨ocls, odict, odata, oslots⟩ := ol
        simp only at cl dl
        subst cl; subst dl
        have gl2 : (s.heap.push (freshSet w)).get? l = some { cls := .type "list", dict := odict, data := .seq its nl, slots := oslots } := Heap.get?_push_of_some _ gl
        have sls := F.sub_list_set
        have slf := F.sub_list_frozenset
        have nd : (Value.type "list" == Value.type "dict") = false := by decide
        have il : (s.heap.push (freshSet w)).IsList l its := ⟨_, gl2, rfl, nl, rfl⟩
        unfold Builtin.«set.__init__» noKeywords Builtin.Frozenset.updateFrom
        generalize hPI : pyIter = PI
        wp_walk
        subst hPI
        refine wpAny_pyIter_list il ?_
        refine wpAny_bind (wpAny_runValue ?_)
        have lS : l < s.heap.objs.size := Heap.lt_size gl
        have h3 : A.in1.in1.in1.handled = none := by simp [hh]
        have sz1 : (s.heap.push (freshSet w)).objs.size = s.heap.objs.size + 1 := Heap.size_push ..
        have neI : l ≠ (s.heap.push (freshSet w)).objs.size := by rw [sz1]; exact Nat.ne_of_lt (Nat.lt_succ_of_lt lS)
        have offS : s.heap.objs.size ∉ [(s.heap.push (freshSet w)).objs.size, l] := by
          rw [sz1]
          simp only [List.mem_cons, List.not_mem_nil, or_false, not_or]
          exact ⟨Nat.ne_of_lt (Nat.lt_succ_self _), Nat.ne_of_gt lS⟩
        refine gather (T := T) ((Walks.list h3 _ l neI its).toS) s.heap.objs.size offS ks sz few s.heap isk (none_at (Nat.le_refl _)) (fun b hb => none_at (by
            rw [List.mem_singleton.mp hb, sz1]
            exact Nat.le_succ _)) hu (its.size - 0) 0 _ (by omega) (Nat.zero_le _)
          ⟨⟨_, Heap.get?_push_size _ rfl, rfl, rfl⟩, (il.push _)⟩ (fun b o e => Heap.get?_push_of_some _ (Heap.get?_push_of_some _ e)) ?hS0 ?hR
        case hS0 => exact ⟨[], T.keep (T.new s.heap s.heap) (fun o e => Heap.get?_push_of_some _ e) (fun b o e => Heap.get?_push_of_some _ (Heap.get?_push_of_some _ e)), Gath.zero ks⟩
        case hR =>
          intro s3 L mv hL g kp
          obtain ⟨h', g2, d', tk', os'⟩ := s3
          have eg : g2 = s.gens := mv.gens
          have ed : d' = s.drawn := mv.drawn
          have eo : os' = s.os := mv.os
          subst eg; subst ed; subst eo
          show wpAny _ _ _ _ _ _
          refine wpAny_pure ?_
          show wpAny _ _ (ret Value.none) _ _ _
          rw [sz] at g
          exact wpAny_pure ⟨rfl, h', tk', L, rfl, hL, g, kp⟩
      · cases r2 with
        | error e => exact hr2
        | ok fl2 =>
          cases fl2 with
          | ret r =>
            obtain ⟨rfl, h', tk, L, rfl, hL, g, kp⟩ := hr2
            repeat (any_goals (first | assumption | wp_step))
            exact q _ _ _ hL g kp
          | _ => exact hr2.elim
    | _ => exact hr.elim
end
end Lb.Sets
end
section
set_option Elab.async false
set_option linter.all false
set_option maxRecDepth 100000
namespace Lb.Sets
open PySem PySem.Spec PyProof.Rows L2
theorem each_snd {α β : Type} {R : β → α → Prop} : ∀ {L : List (α × β)}, (∀ p ∈ L, R p.2 p.1) → PySem.W.EachIs (fun v (p : α × β) => v = p.2 ∧ R p.2 p.1) (L.map (·.2)) L
  | [], _ => .nil
  | p :: L, h => .cons ⟨rfl, h p List.mem_cons_self⟩ (each_snd fun q m => h q (List.mem_cons_of_mem _ m))
theorem each_fst {α β γ : Type} {R : γ → α → Prop} {S : γ → β → Prop} {f : β → α} (h : ∀ v p, S v p → R v (f p)) : ∀ {vs : List γ} {L : List β}, PySem.W.EachIs S vs L → PySem.W.EachIs R vs (L.map f)
  | _, _, .nil => .nil
  | _, _, .cons a t => .cons (h _ _ a) (each_fst h t)
section
variable {P : Program} {w : World} {A : Around} {E : Value → Shared → Prop} {s : Shared}
theorem sorted_set {κ : Type} (T : SK P w κ) {h0 : Heap} {a : Addr} {ks : List κ} {Q : Value → Shared → Prop} (R : T.at_ h0 s.heap a ks) (k0 : Keeps h0 s.heap) (hh : A.handled = none) (few : ks.length < 64) (al : PySem.W.AllAlike (ks.map T.enc)) (so : PySem.W.Sortable (ks.map T.enc))
    (hu : ∀ k, k ∈ ks → A.units + 2 + (T.enc k).depth < cLine)
    (q : ∀ s' p (out : List Value) (c : Nat) (ks' : List κ), Keeps s.heap s'.heap → s'.gens = s.gens → s'.os = s.os → s.heap.objs.size ≤ p → s'.heap.get? p = some (seqObj "list" out.toArray c) → ks'.Perm ks → PySem.W.EachIs (fun v k => T.is h0 k v) out (ks'.mergeSort (PySem.W.dataLe false T.enc)) → Q (.ref p) s') :
    wpAny (model P w) A (call (.builtin "sorted") [.ref a]) Q E s := by
  obtain ⟨es, ep, t, ⟨o, g, ex, d⟩, fit, sc, ri, ld, L, l1, l2, l3⟩ := T.out R
  have lenL : L.length = ks.length := by rw [← l1.length_eq, List.length_map]
  refine Calls.call_function_entry kind_sorted plain_sorted entry_sorted (args_sorted1 _) ?_
  unfold Builtin.«sorted»
  refine wpAny_bind (m := checkCount "sorted" 1 1 _) (wpAny_pure ?_)
  refine wpAny_bind (collect_set (A := A.in1) hh ⟨o, g, ex.1, d⟩ fit sc ri ld fun s1 vs kp zs gs os pm => ?_)
  obtain ⟨L', pL, ev⟩ := perm_map (pm.trans l2) (L := L) rfl
  have pK : (L'.map (·.1)).Perm ks := (pL.map (·.1)).trans l1
  have is' : ∀ p ∈ L', T.is h0 p.1 p.2 := fun p m => l3 p (pL.mem_iff.mp m)
  have lenV : vs.length = ks.length := by rw [ev, List.length_map, pL.length_eq, lenL]
  refine wpAny_bind (wpAny_newList ?_ (by rw [sizeLine_eq]; omega))
  have gL : (s1.heap.push (seqObj "list" vs.toArray 0)).get? s1.heap.objs.size = some (seqObj "list" vs.toArray 0) := Heap.get?_push_size _ rfl
  have k1 : Keeps h0 (s1.heap.push (seqObj "list" vs.toArray 0)) := fun b u e => Heap.get?_push_of_some _ (kp b u (k0 b u e))
  have ea : PySem.W.EachIs (fun v (p : κ × Value) => v = p.2 ∧ T.is h0 p.1 p.2) vs L' := by rw [ev]; exact each_snd (R := fun v k => T.is h0 k v) is'
  have sub : ∀ p ∈ L', p.1 ∈ ks := fun p m => pK.mem_iff.mp (List.mem_map.mpr ⟨p, m, rfl⟩)
  refine wpAny_bind (wpAny_holding (PySem.W.list_sort_data (s := { s1 with heap := s1.heap.push (seqObj "list" vs.toArray 0) }) (enc := fun p : κ × Value => T.enc p.1) gL ea
    (ea.mono fun v p ⟨e, i⟩ => ⟨[], by rw [e]; exact T.reads (T.mono i k1), by simp⟩) (fun x hx y hy => ?_) ?_ (by rw [pL.length_eq, lenL, sizeLine_eq]; omega) (fun p m => ?_) fun out len eo => ?_))
  · obtain ⟨p, mp, rfl⟩ := List.mem_map.mp hx
    obtain ⟨r, mr, rfl⟩ := List.mem_map.mp hy
    exact al _ (List.mem_map.mpr ⟨p.1, sub p mp, rfl⟩) _ (List.mem_map.mpr ⟨r.1, sub r mr, rfl⟩)
  · rcases so with so | so
    · exact .inl fun x hx => by
        obtain ⟨p, mp, rfl⟩ := List.mem_map.mp hx
        exact so _ (List.mem_map.mpr ⟨p.1, sub p mp, rfl⟩)
    · exact .inr fun x hx => by
        obtain ⟨p, mp, rfl⟩ := List.mem_map.mp hx
        exact so _ (List.mem_map.mpr ⟨p.1, sub p mp, rfl⟩)
  · have := hu p.1 (sub p m)
    show A.units + 1 + 1 + (T.enc p.1).depth < cLine
    omega
  · obtain ⟨c, gc⟩ := sortedHeap_at (vs := vs) (out := out.toArray) gL
    have em : (L'.mergeSort (PySem.W.dataLe false fun p : κ × Value => T.enc p.1)).map (·.1) = (L'.map (·.1)).mergeSort (PySem.W.dataLe false T.enc) := List.map_mergeSort fun _ _ _ _ => rfl
    have eo2 : PySem.W.EachIs (fun v k => T.is h0 k v) out ((L'.map (·.1)).mergeSort (PySem.W.dataLe false T.enc)) := by
      rw [← em]
      exact each_fst (fun v p ⟨e, i⟩ => by rw [e]; exact i) eo
    refine wpAny_pure ⟨_, rfl, q _ s1.heap.objs.size out c _ (fun b u e => ?_) gs os zs gc pK eo2⟩
    have e1 := kp b u e
    have lt := Heap.lt_size e1
    show (sortedHeap (s1.heap.push (seqObj "list" vs.toArray 0)) s1.heap.objs.size vs out.toArray).get? b = some u
    rw [sortedHeap_old (Nat.ne_of_lt lt) (by rw [size_push']; exact Nat.lt_succ_of_lt lt)]
    exact Heap.get?_push_of_some _ e1
theorem key_no_set {κ : Type} [DecidableEq κ] {kk : KeyKind P w κ} {k : List κ} {v : Value} {h h' : Heap} (x : ∃ b, v = .ref b ∧ IsTupleKey kk h k b) (kp : Keeps h h') : ∃ b, v = .ref b ∧ IsTupleKey kk h' k b := by
  obtain ⟨b, e, o, its, m, g, r⟩ := x
  exact ⟨b, e, o, its, m, kp b o g, r⟩
theorem reads_items {κ : Type} [DecidableEq κ] {kk : KeyKind P w κ} {enc : κ → PyData} {h : Heap} (rd : ∀ {k : κ} {v : Value}, kk.is k v = true → Reads h v (enc k) []) : ∀ {ks : List κ} {vs : List Value}, ItemsAre kk ks vs → ReadsAll h vs (ks.map enc) []
  | _, _, .nil => .nil
  | _, _, .cons a t => .cons (as := []) (bs := []) (rd a) (reads_items rd t)
theorem fresh_at (w : World) (h : Heap) : SetTR P w (h.push (freshSet w)) h.objs.size [] #[] 0 (.fresh 0 0 (!w.params.followText "set-order")) := setTR_fresh (Heap.get?_push_size _ rfl)
/-- sets of tuples -/
def tupSets {κ : Type} [DecidableEq κ] (kk : KeyKind P w κ) (G : List κ → Value → Prop) (enc : κ → PyData) (rd : ∀ {h : Heap} {k : κ} {v : Value}, kk.is k v = true → Reads h v (enc k) []) : SK P w (List κ) where
  is := fun h k v => (∃ b, v = .ref b ∧ IsTupleKey kk h k b) ∧ G k v
  enc := fun k => .tuple (k.map enc)
  at_ := fun h0 h a ks => ∃ L es ep t, L.map (·.1) = ks ∧ TSet kk h a L es ep t ∧ ∀ p ∈ L, IsTupleKey kk h0 p.1 p.2 ∧ G p.1 (.ref p.2)
  mono := fun x kp => ⟨key_no_set x.1 kp, x.2⟩
  reads := fun ⟨⟨b, e, o, its, m, g, c, d, i⟩, _⟩ => by subst e; exact .tuple g c d (reads_items rd i)
  new := fun h0 h => ⟨[], #[], 0, _, rfl, ⟨⟨freshSet w, Heap.get?_push_size _ rfl, ⟨rfl, rfl, rfl⟩, rfl⟩, rfl, (fresh_at (P := P) w h).tab, List.nodup_nil, (fun p m => nomatch m), (fresh_at (P := P) w h).led, (fresh_at (P := P) w h).room, Nat.zero_lt_succ 63⟩, fun p m => nomatch m⟩
  keep := fun ⟨L, es, ep, t, e, R, i⟩ ka kp => ⟨L, es, ep, t, e, ⟨by
    obtain ⟨o, g, r⟩ := R.ob
    exact ⟨o, ka o g, r⟩, R.rows, R.tab, R.nd, fun p m => by
      obtain ⟨o, its, n, g, r⟩ := (i p m).1
      exact ⟨o, its, n, kp _ o g, r⟩, R.led, R.room, R.few⟩, i⟩
  nd := fun ⟨L, es, ep, t, e, R, i⟩ => by rw [← e]; exact R.nd
  add := by
    rintro A E s h0 a ks k v Q ⟨L, es, ep, t, e, R, i⟩ kp a0 ⟨⟨b, rfl, ib⟩, gb⟩ few hu q
    have ib2 : IsTupleKey kk s.heap k b := by
      obtain ⟨o, its, n, g, r⟩ := ib
      exact ⟨o, its, n, kp _ o g, r⟩
    subst e
    rw [List.length_map] at few
    unfold setAdd
    refine wpAny_holding (wpAny_bind (wpAny_pyHash_tuple hu ib2 ?_))
    refine put_in (s := { s with toks := s.toks + (k.length + 1) }) R ib2 hu few fun c h' L' es' ep' t' sb R' c1 c2 => ?_
    refine q c h' _ _ sb (Nat.le_add_right _ _) ⟨L', es', ep', t', rfl, R', fun p m => ?_⟩ (fun m => by rw [c1 m]) fun m => (c2 m).map (·.1)
    rcases Classical.em (k ∈ L.map (·.1)) with z | z
    · exact i p (by rw [← c1 z]; exact m)
    · rcases List.mem_cons.mp ((c2 z).mem_iff.mp m) with e | m
      · rw [e]; exact ⟨ib, gb⟩
      · exact i p m
  out := fun ⟨L, es, ep, t, e, R, i⟩ => by
    refine ⟨es, ep, t, R.ob, R.fits, by rw [rows_size R.rows]; exact few_scan R.few, R.tab.ris, R.led, L.map fun p => (p.1, Value.ref p.2), ?_, ?_, fun p m => ?_⟩
    · rw [List.map_map, ← e]
      exact List.Perm.refl _
    · rw [R.rows]
      show ((L.map _).map _).Perm _
      rw [List.map_map, List.map_map]
      exact List.Perm.refl _
    · obtain ⟨r, mr, rfl⟩ := List.mem_map.mp m
      exact ⟨⟨_, rfl, (i r mr).1⟩, (i r mr).2⟩
/-- sets of keys that are looked through -/
def flatSets {κ : Type} [DecidableEq κ] (kk : KeyKind P w κ) (G : κ → Value → Prop) (enc : κ → PyData) (rd : ∀ {h : Heap} {k : κ} {v : Value}, kk.is k v = true → Reads h v (enc k) []) : SK P w κ where
  is := fun _ k v => kk.is k v = true ∧ v.scannable = true ∧ G k v
  enc := enc
  at_ := fun _ h a ks => ∃ es ep t, FSet kk (fun k v => kk.is k v = true ∧ v.scannable = true ∧ G k v) h a ks es ep t
  mono := fun x _ => x
  reads := fun x => rd x.1
  new := fun h0 h => ⟨#[], 0, _, ⟨⟨freshSet w, Heap.get?_push_size _ rfl, ⟨rfl, rfl, rfl⟩, rfl⟩, fun e he => by simp at he, fun k => by simp, rfl, List.nodup_nil, (SetTR.fits (s := ⟨h.push (freshSet w), #[], {}, 0, {}⟩) (fresh_at (P := P) w h)), (fresh_at (P := P) w h).tab.ris, (fresh_at (P := P) w h).led, Nat.zero_lt_succ 63, ⟨[], rfl, List.Perm.refl _, fun p m => nomatch m⟩⟩⟩
  keep := fun ⟨es, ep, t, R⟩ ka kp => ⟨es, ep, t, ⟨by
    obtain ⟨o, g, r⟩ := R.ob
    exact ⟨o, ka o g, r⟩, R.el, R.mem, R.size, R.nd, R.fits, R.ris, R.led, R.few, R.rep⟩⟩
  nd := fun ⟨es, ep, t, R⟩ => R.nd
  add := by
    rintro A E s h0 a ks k v Q ⟨es, ep, t, R⟩ kp a0 ⟨ik, sc, gk⟩ few hu q
    unfold setAdd
    refine wpAny_holding (wpAny_bind (kk.pyHash ik ?_))
    refine put_flat (s := { s with toks := s.toks + 1 }) R ik sc ⟨ik, sc, gk⟩ few fun c h' ks' es' ep' t' sb R' c1 c2 => ?_
    exact q c h' _ ks' sb (Nat.le_add_right _ _) ⟨es', ep', t', R'⟩ (fun m => by rw [c1 m]) fun m => by rw [c2 m]
  out := fun ⟨es, ep, t, R⟩ => by
    obtain ⟨L, l1, l2, l3⟩ := R.rep
    exact ⟨es, ep, t, R.ob, R.fits, few_scan (by rw [R.size]; exact R.few), R.ris, R.led, L, by rw [l1], l2, l3⟩
end
end Lb.Sets
end
section
set_option Elab.async false
set_option linter.all false
set_option maxRecDepth 100000
namespace Lb

abbrev Tx := List Nat
inductive D where
  | non | bl (b : Bool) | int (i : Int) | str (x : Tx)
  | tup (xs : List D) | lst (xs : List D) | dic (kvs : List (Tx × D))
  | cell (a : Nat) | fn (f : Nat) | exc (c : Nat) (w : D) | scr (ns : List Int)
inductive Cell where
  | lst (xs : List D) | dic (kvs : List (Tx × D)) | ins (c : Nat) (fs : List (Tx × D))
abbrev Heap := List Cell
inductive R (α : Type) where
  | ok (a : α) (h : Heap) | ex (k : Nat) (w : D) (h : Heap) | bad
def R.bind {α β : Type} : R α → (α → Heap → R β) → R β
  | .ok a h, f => f a h
  | .ex k w h, _ => .ex k w h
  | .bad, _ => .bad
def R.of {α : Type} (h : Heap) : Option α → R α
  | some a => .ok a h
  | none => .bad

abbrev sz : Nat := 16777216
mutual
def eqv : D → D → Bool
  | .non, .non => true
  | .bl a, .bl b => a == b
  | .bl a, .int j => (if a then 1 else 0) == j
  | .int i, .bl b => i == (if b then 1 else 0)
  | .int i, .int j => i == j
  | .str x, .str y => x == y
  | .lst xs, .lst ys => eqvL xs ys
  | .tup xs, .tup ys => eqvL xs ys
  | _, _ => false
def eqvL : List D → List D → Bool
  | [], [] => true
  | x :: xs, y :: ys => eqv x y && eqvL xs ys
  | _, _ => false
end
mutual
def plain : D → Bool
  | .non => true
  | .bl _ => true
  | .int _ => true
  | .str x => x.all fun c => decide (c < 1114112)
  | .lst xs => plainL xs
  | .tup xs => plainL xs
  | _ => false
def plainL : List D → Bool
  | [] => true
  | x :: xs => plain x && plainL xs
end
mutual
def depth : D → Nat
  | .lst xs => depthL xs + 1
  | .tup xs => depthL xs + 1
  | _ => 0
def depthL : List D → Nat
  | [] => 0
  | x :: xs => max (depth x) (depthL xs)
end
def okD (d : D) : Bool := plain d && decide (depth d ≤ 40)
mutual
def alike : D → D → Bool
  | .non, .non => true
  | .bl _, .bl _ => true
  | .int _, .int _ => true
  | .str _, .str _ => true
  | .lst xs, .lst ys => alikeL xs ys
  | .tup xs, .tup ys => alikeL xs ys
  | _, _ => false
def alikeL : List D → List D → Bool
  | x :: xs, y :: ys => alike x y && alikeL xs ys
  | _, _ => true
end
mutual
def lt : D → D → Bool
  | .bl a, .bl b => !a && b
  | .int i, .int j => decide (i < j)
  | .str x, .str y => decide (x < y)
  | .lst xs, .lst ys => ltL xs ys
  | .tup xs, .tup ys => ltL xs ys
  | _, _ => false
def ltL : List D → List D → Bool
  | [], [] => false
  | [], _ :: _ => true
  | _ :: _, [] => false
  | x :: xs, y :: ys => if eqv x y then ltL xs ys else lt x y
end
def isNone : D → Bool
  | .non => true
  | _ => false
def isTup : D → Bool
  | .tup (_ :: _) => true
  | _ => false
def isOther : D → Bool
  | .non => false
  | .tup _ => false
  | _ => true
/-- Python's sorted, of data alike -/
def sort (xs : List D) : List D := xs.mergeSort fun a b => !lt b a
def canSort (xs : List D) : Bool := (xs.all fun x => okD x && xs.all fun y => alike x y) && (xs.all isTup || xs.all isOther) && decide (xs.length ≤ sz)
def truth : D → Option Bool
  | .non => some false
  | .bl b => some b
  | .int i => some (i != 0)
  | .str x => if x.length ≤ sz then some (!x.isEmpty) else none
  | .lst xs => some (!xs.isEmpty)
  | .tup xs => some (!xs.isEmpty)
  | _ => none
/-- a list that may change, as it stands -/
def rd (h : Heap) : D → D
  | .cell a => match h[a]? with
    | some (.lst xs) => .lst xs
    | some (.dic kvs) => .dic kvs
    | _ => .cell a
  | d => d

inductive Op where
  | add | sub | mul | fdiv | mod | pow
inductive Cm where
  | eq | ne | lt | le | gt | ge | isin | notin
inductive Kc where
  | non | tru | fls
def small (i : Int) : Bool := decide (-(2 ^ 64) < i) && decide (i < 2 ^ 64)
def bin : Op → D → D → Option D
  | .add, .int i, .int j => some (.int (i + j))
  | .add, .str x, .str y => if x.length + y.length ≤ sz then some (.str (x ++ y)) else none
  | .add, .lst x, .lst y => if x.length + y.length ≤ sz then some (.lst (x ++ y)) else none
  | .add, .tup x, .tup y => if x.length + y.length ≤ sz then some (.tup (x ++ y)) else none
  | .sub, .int i, .int j => some (.int (i - j))
  | .mul, .int i, .int j => if small i || small j then some (.int (i * j)) else none
  | .fdiv, .int i, .int j => if decide (j ≠ 0) && decide (j.natAbs < 1073741824) then some (.int (i.fdiv j)) else none
  | .mod, .int i, .int j => if j = 0 then none else some (.int (i.fmod j))
  | .pow, .int i, .int j => if 0 ≤ j ∧ j ≤ 1000000 ∧ i.natAbs < 2 ^ 64 then some (.int (i ^ j.toNat)) else none
  | _, _, _ => none
def cmpOk (a b : D) : Bool := okD a && okD b && alike a b && !isNone a
/-- data that are told apart by themselves -/
def scal : D → D → Bool
  | .non, .non => true
  | .non, .int _ => true
  | .int _, .non => true
  | .non, .bl _ => true
  | .bl _, .non => true
  | .non, .str _ => true
  | .str _, .non => true
  | .int _, .int _ => true
  | .bl _, .bl _ => true
  | .str _, .str _ => true
  | .int _, .str _ => true
  | .str _, .int _ => true
  | .bl _, .str _ => true
  | .str _, .bl _ => true
  | _, _ => false
def flat : D → Bool
  | .non => true
  | .bl _ => true
  | .int _ => true
  | .str _ => true
  | _ => false
def same (a b : D) : Option Bool := if scal a b || (okD a && okD b) then some (eqv a b) else none
def less : D → D → Option Bool
  | .int i, .int j => some (decide (i < j))
  | .str x, .str y => some (decide (x < y))
  | _, _ => none
def keyOf : List (Tx × D) → Tx → Option D
  | [], _ => none
  | (k, v) :: r, x => if k = x then some v else keyOf r x
def isIn (a : D) : D → Option Bool
  | .lst xs => if (flat a && xs.all flat) || (okD a && okD (.lst xs)) then some (xs.any fun z => eqv z a) else none
  | .tup xs => if (flat a && xs.all flat) || (okD a && okD (.tup xs)) then some (xs.any fun z => eqv z a) else none
  | .str y => match a with
    | .str [c] => some (decide (c ∈ y))
    | _ => none
  | .dic kvs => match a with
    | .str x => some (keyOf kvs x).isSome
    | _ => none
  | _ => none
def cmp : Cm → D → D → Option Bool
  | .eq, a, b => same a b
  | .ne, a, b => (same a b).map fun k => !k
  | .lt, a, b => less a b
  | .gt, a, b => less b a
  | .le, a, b => (less b a).map fun k => !k
  | .ge, a, b => (less a b).map fun k => !k
  | .isin, a, b => isIn a b
  | .notin, a, b => (isIn a b).map fun k => !k
def isk : Kc → D → Option Bool
  | .non, d => some (isNone d)
  | .tru, .bl b => some b
  | .fls, .bl b => some (!b)
  | _, _ => none

def ixN (n : Nat) (i : Int) : Option Nat := if 0 ≤ i then (if i < n then some i.toNat else none) else if -(n : Int) ≤ i then some (i + n).toNat else none
def atI {α : Type} (xs : List α) (i : Int) : Option α := (ixN xs.length i).bind fun j => xs[j]?
def item : D → D → Option D
  | .lst xs, .int i => atI xs i
  | .tup xs, .int i => atI xs i
  | .str x, .int i => if x.length ≤ sz then (atI x i).map fun c => .str [c] else none
  | .dic kvs, .str k => keyOf kvs k
  | .scr ns, .int i => (atI ns i).map .int
  | _, _ => none
def sIx (n d : Nat) : Option Int → Nat
  | none => d
  | some i => if 0 ≤ i then min i.toNat n else (i + n).toNat
def cut {α : Type} (xs : List α) (lo hi : Option Int) : List α := (xs.drop (sIx xs.length 0 lo)).take (sIx xs.length xs.length hi - sIx xs.length 0 lo)
def slice (lo hi : Option Int) : D → Option D
  | .lst xs => some (.lst (cut xs lo hi))
  | .tup xs => some (.tup (cut xs lo hi))
  | .str x => if x.length ≤ sz then some (.str (cut x lo hi)) else none
  | _ => none
def partI : Option D → Option (Option Int)
  | none => some none
  | some (.int i) => some (some i)
  | some _ => none
def rev : D → Option D
  | .lst xs => some (.lst xs.reverse)
  | _ => none

inductive Ty where
  | str | int | bool | tup | lst | dic
def isTy : D → Ty → Option Bool
  | .str _, .str => some true
  | .int _, .int => some true
  | .bl _, .int => some true
  | .bl _, .bool => some true
  | .tup _, .tup => some true
  | .lst _, .lst => some true
  | .dic _, .dic => some true
  | .non, _ => some false
  | .str _, _ => some false
  | .int _, _ => some false
  | .bl _, _ => some false
  | .tup _, _ => some false
  | .lst _, _ => some false
  | .dic _, _ => some false
  | _, _ => none
inductive B where
  | len | tup | lst | sorted | all | any | sum | min1 | max1 | min2 | max2 | abs | int | str | repr
inductive M where
  | join | split | starts | ends | count | index | get
def items : D → Option (List D)
  | .lst xs => some xs
  | .tup xs => some xs
  | _ => none
def intsD : List D → Option (List Int)
  | [] => some []
  | .int i :: r => (intsD r).map (i :: ·)
  | _ :: _ => none
def boolsD : List D → Option (List Bool)
  | [] => some []
  | .bl i :: r => (boolsD r).map (i :: ·)
  | _ :: _ => none
def textsD : List D → Option (List Tx)
  | [] => some []
  | .str i :: r => (textsD r).map (i :: ·)
  | _ :: _ => none
def dedup : List D → List D
  | [] => []
  | x :: r => let s := dedup r; if s.any fun z => eqv z x then s else x :: s
/-- the figures of a number, the last first ones behind -/
def figs : Nat → Nat → Tx → Tx
  | 0, _, acc => acc
  | f + 1, n, acc => if n < 10 then (48 + n) :: acc else figs f (n / 10) ((48 + n % 10) :: acc)
def natText (n : Nat) : Tx := figs (n + 1) n []
def intText (i : Int) : Tx := if i < 0 then 45 :: natText i.natAbs else natText i.natAbs
def valOf : Tx → Nat → Nat
  | [], v => v
  | c :: r, v => valOf r (v * 10 + (c - 48))
def isFigs (x : Tx) : Bool := !x.isEmpty && x.all fun c => decide (48 ≤ c) && decide (c ≤ 57)
def bLen : List D → Option D
  | [.str x] => if x.length ≤ sz then some (.int x.length) else none
  | [.lst xs] => some (.int xs.length)
  | [.tup xs] => some (.int xs.length)
  | [.dic xs] => some (.int xs.length)
  | [.scr xs] => some (.int xs.length)
  | _ => none
def bTup : List D → Option D
  | [.lst xs] => some (.tup xs)
  | [.tup xs] => some (.tup xs)
  | _ => none
def bLst : List D → Option D
  | [.lst xs] => some (.lst xs)
  | [.tup xs] => some (.lst xs)
  | _ => none
def bSorted : List D → Option D
  | [.lst xs] => if canSort xs then some (.lst (sort xs)) else none
  | [.tup xs] => if canSort xs then some (.lst (sort xs)) else none
  | _ => none
def isS : D → Bool
  | .str _ => true
  | _ => false
def isI : D → Bool
  | .int _ => true
  | _ => false
def isTS : D → Bool
  | .tup (x :: xs) => (x :: xs).all isS
  | _ => false
/-- what a set may hold here -/
def canSet (xs : List D) : Bool := decide (xs.length < 64) && (xs.all isS || xs.all isI || xs.all isTS)
def bSset : D → Option D
  | .lst xs => if canSet xs then some (.lst (sort (dedup xs))) else none
  | _ => none
def bLset : D → Option D
  | .lst xs => if canSet xs then some (.int (dedup xs).length) else none
  | _ => none
def lists : List D → Option (List (List D))
  | [] => some []
  | .lst xs :: r => (lists r).map (xs :: ·)
  | _ :: _ => none
def bSumL : D → Option D
  | .lst xs => (lists xs).bind fun ys => if ys.flatten.length ≤ sz then some (.lst ys.flatten) else none
  | _ => none
def bAll : List D → Option D
  | [.lst xs] => (boolsD xs).map fun bs => .bl (bs.all id)
  | _ => none
def bAny : List D → Option D
  | [.lst xs] => (boolsD xs).map fun bs => .bl (bs.any id)
  | _ => none
def bSum : List D → Option D
  | [.lst xs] => (intsD xs).map fun ns => .int ns.sum
  | _ => none
def bMin2 : List D → Option D
  | [.int i, .int j] => some (.int (if j < i then j else i))
  | _ => none
def bMax2 : List D → Option D
  | [.int i, .int j] => some (.int (if j > i then j else i))
  | _ => none
def bAbs : List D → Option D
  | [.int i] => some (.int (if i < 0 then -i else i))
  | _ => none
def bInt : List D → Option D
  | [.int i] => some (.int i)
  | [.bl b] => some (.int (if b then 1 else 0))
  | _ => none
def bStr : List D → Option D
  | [.int i] => if i.natAbs.log2 < 1920 then some (.str (intText i)) else none
  | _ => none
def blt (b : B) (ds : List D) : Option D := match b with
  | .len => bLen ds
  | .tup => bTup ds
  | .lst => bLst ds
  | .sorted => bSorted ds
  | .all => bAll ds
  | .any => bAny ds
  | .sum => bSum ds
  | .min2 => bMin2 ds
  | .max2 => bMax2 ds
  | .abs => bAbs ds
  | .int => bInt ds
  | .str => bStr ds
  | _ => none
def joinT (s : Tx) : List Tx → Tx
  | [] => []
  | [x] => x
  | x :: y :: r => x ++ s ++ joinT s (y :: r)
/-- cut at each sign c -/
def splitT (c : Nat) : Tx → List Tx
  | [] => [[]]
  | x :: r => if x = c then [] :: splitT c r else match splitT c r with
    | [] => [[x]]
    | y :: ys => (x :: y) :: ys
def mJoin : Tx → List D → Option D
  | s, [.lst xs] => (textsD xs).bind fun ts => if (joinT s ts).length + s.length ≤ sz then some (.str (joinT s ts)) else none
  | s, [.tup xs] => (textsD xs).bind fun ts => if (joinT s ts).length + s.length ≤ sz then some (.str (joinT s ts)) else none
  | _, _ => none
def mSplit : Tx → List D → Option D
  | x, [.str [c]] => if x.length + 2 ≤ sz ∧ c < 256 then some (.lst ((splitT c x).map .str)) else none
  | _, _ => none
def mStarts : Tx → List D → Option D
  | x, [.str (c :: p)] => some (.bl ((c :: p).isPrefixOf x))
  | _, _ => none
def mCount : Tx → List D → Option D
  | x, [.str [c]] => if x.length ≤ sz then some (.int (x.countP (· == c))) else none
  | _, _ => none
def mIndex : Tx → List D → Option D
  | x, [.str [c]] => if x.length ≤ sz ∧ c ∈ x then some (.int (x.idxOf c)) else none
  | _, _ => none
def mth (m : M) (d : D) (ds : List D) : Option D := match m, d with
  | .join, .str s => mJoin s ds
  | .split, .str s => mSplit s ds
  | .starts, .str s => mStarts s ds
  | .count, .str s => mCount s ds
  | .index, .str s => mIndex s ds
  | .get, .dic kvs => (match ds with
    | [.str k, d] => some ((keyOf kvs k).getD d)
    | _ => none)
  | _, _ => none

inductive Tg where
  | nm (i : Nat) | tu2 (a b : Tg) | tu (is : List Nat)
mutual
inductive Ex where
  | var (i : Nat) | peek (i : Nat) | lit (d : D) | kon (x : Tx) (d : D)
  | bin (o : Op) (a b : Ex) | neg (a : Ex) | not (a : Ex) | and (a b : Ex) | or (a b : Ex)
  | cmp (c : Cm) (a b : Ex) | chain (c c' : Cm) (a b e : Ex) | isk (n : Bool) (a : Ex) (k : Kc)
  | ix (a i : Ex) | slice (a : Ex) (lo hi : Po) | rev (a : Ex)
  | tup (es : Exs) | lst (es : Exs) | dic (ks : List Tx) (es : Exs)
  | call (f : Nat) (es : Exs) | blt (b : B) (es : Exs) | isi (a : Ex) (t : Ty) | mth (m : M) (o : Ex) (es : Exs)
  | comp (tg : Tg) (it : It) (el : Ex) | compIf (tg : Tg) (it : It) (c el : Ex)
  | mk (e : Ex) | sset (a : Ex) | lset (a : Ex) | sumL (a : Ex)
inductive Exs where
  | nil | cons (e : Ex) (es : Exs)
inductive Po where
  | no | at (e : Ex)
inductive It where
  | seq (e : Ex) | rng1 (a : Ex) | rng2 (a b : Ex) | enum (e : Ex) | zip (a b : Ex) | own (j : Nat) | cel (j : Nat)
end
mutual
inductive S where
  | asg (tg : Tg) (e : Ex) | own (i : Nat) (e : Ex) | frz (i : Nat) | cel (i : Nat)
  | setix (o i e : Ex) | setown (j : Nat) (i e : Ex) | app (j : Nat) (e : Ex) | appC (o e : Ex) | rem (j : Nat) (e : Ex)
  | expr (e : Ex) | ret (e : Ex) | retown (i : Nat) | retn | pass | cont
  | ite (c : Ex) (a b : Ss) | for_ (tg : Tg) (it : It) (b : Ss) | whl (n : Nat) (c : Ex) (b : Ss)
  | rais (k : Nat) (es : Exs) | tryx (b : Ss) (k : Nat) (i : Option Nat) (hd : Ss)
inductive Ss where
  | nil | cons (s : S) (r : Ss)
end

inductive Sl where
  | no | v (d : D) | own (xs : List D)
abbrev Fr := List Sl
abbrev Cl := Nat → List D → Heap → R D
def rngL (lo : Int) : Nat → List D
  | 0 => []
  | n + 1 => .int lo :: rngL (lo + 1) n
def enumL (k : Int) : List D → List D
  | [] => []
  | x :: r => .tup [.int k, x] :: enumL (k + 1) r
def zipL : List D → List D → List D
  | x :: r, y :: s => .tup [x, y] :: zipL r s
  | _, _ => []
/-- what a walk goes over -/
def walk : D → Option (List D)
  | .lst xs => some xs
  | .tup xs => some xs
  | .str x => some (x.map fun c => .str [c])
  | _ => none
def rngOk (i : Int) : Bool := decide (-(2 ^ 62) ≤ i) && decide (i < 2 ^ 62)
def setAll : List Nat → List D → Fr → Option Fr
  | [], [], σ => some σ
  | i :: r, d :: ds, σ => setAll r ds (σ.set i (.v d))
  | _, _, _ => none
def Tg.set : Tg → D → Fr → Option Fr
  | .nm i, d, σ => some (σ.set i (.v d))
  | .tu2 a b, .tup [x, y], σ => (a.set x σ).bind (b.set y)
  | .tu is, .tup ds, σ => setAll is ds σ
  | _, _, _ => none
def Tg.slots : Tg → List Nat
  | .nm i => [i]
  | .tu2 a b => a.slots ++ b.slots
  | .tu is => is
def wipe (σ : Fr) : List Nat → Fr
  | [] => σ
  | v :: vs => (wipe σ vs).set v .no
def compL (f : D → Heap → R (Option D)) : List D → Heap → R (List D)
  | [], h => .ok [] h
  | x :: r, h => match f x h with
    | .ok y h1 => (match compL f r h1 with
      | .ok ys h2 => .ok (match y with
        | some z => z :: ys
        | none => ys) h2
      | _ => .bad)
    | _ => .bad
/-- the list walked is as it was -/
def live (σ : Fr) (h : Heap) (xs : List D) : It → Prop
  | .cel j => ∃ a, σ[j]? = some (.v (.cell a)) ∧ h[a]? = some (.lst xs)
  | _ => True
noncomputable def onl {α : Type} (p : Prop) (r : R α) : R α := @ite _ p (Classical.propDecidable p) r .bad
mutual
noncomputable def evE (c : Cl) (σ : Fr) : Ex → Heap → R D
  | .var i, h => match σ[i]? with
    | some (.v d) => .ok d h
    | _ => .bad
  | .peek i, h => match σ[i]? with
    | some (.own xs) => .ok (.lst xs) h
    | _ => .bad
  | .lit d, h => .ok d h
  | .kon _ d, h => .ok d h
  | .bin o a b, h => (evE c σ a h).bind fun x h1 => (evE c σ b h1).bind fun y h2 => .of h2 (bin o (rd h2 x) (rd h2 y))
  | .neg a, h => (evE c σ a h).bind fun x h1 => match x with
    | .int i => .ok (.int (-i)) h1
    | _ => .bad
  | .not a, h => (evE c σ a h).bind fun x h1 => match x with
    | .bl b => .ok (.bl (!b)) h1
    | _ => .bad
  | .and a b, h => (evE c σ a h).bind fun x h1 => match x with
    | .bl true => evE c σ b h1
    | .bl false => .ok (.bl false) h1
    | _ => .bad
  | .or a b, h => (evE c σ a h).bind fun x h1 => match x with
    | .bl true => .ok (.bl true) h1
    | .bl false => evE c σ b h1
    | _ => .bad
  | .cmp o a b, h => (evE c σ a h).bind fun x h1 => (evE c σ b h1).bind fun y h2 => .of h2 ((cmp o (rd h2 x) (rd h2 y)).map .bl)
  | .chain o o' a b e, h => (evE c σ a h).bind fun x h1 => (evE c σ b h1).bind fun y h2 => (R.of h2 (cmp o x y)).bind fun k h3 => match k with
    | false => .ok (.bl false) h3
    | true => (evE c σ e h3).bind fun z h4 => .of h4 ((cmp o' y z).map .bl)
  | .isk n a k, h => (evE c σ a h).bind fun x h1 => .of h1 ((isk k x).map fun b => .bl (b != n))
  | .ix a i, h => (evE c σ a h).bind fun x h1 => (evE c σ i h1).bind fun y h2 => .of h2 (item (rd h2 x) y)
  | .slice a lo hi, h => (evE c σ a h).bind fun x h1 => (evP c σ lo h1).bind fun y h2 => (evP c σ hi h2).bind fun z h3 => .of h3 (slice y z (rd h3 x))
  | .rev a, h => (evE c σ a h).bind fun x h1 => .of h1 (rev (rd h1 x))
  | .tup es, h => (evEs c σ es h).bind fun ds h1 => if ds.length ≤ sz then .ok (.tup ds) h1 else .bad
  | .lst es, h => (evEs c σ es h).bind fun ds h1 => if ds.length ≤ sz then .ok (.lst ds) h1 else .bad
  | .dic ks es, h => (evEs c σ es h).bind fun ds h1 => if ks.length = ds.length then .ok (.dic (ks.zip ds)) h1 else .bad
  | .call f es, h => (evEs c σ es h).bind fun ds h1 => c f ds h1
  | .blt b es, h => (evEs c σ es h).bind fun ds h1 => .of h1 (blt b (ds.map (rd h1)))
  | .isi a t, h => (evE c σ a h).bind fun x h1 => .of h1 ((isTy (rd h1 x) t).map .bl)
  | .mth m o es, h => (evE c σ o h).bind fun x h1 => match x with
    | .str t => (evEs c σ es h1).bind fun ds h2 => .of h2 (mth m (.str t) (ds.map (rd h2)))
    | _ => .bad
  | .comp tg it el, h => (evI c σ it h).bind fun xs h1 => (compL (fun x h => onl (live σ h xs it) ((R.of h (tg.set x (wipe σ tg.slots))).bind fun σ' h => (evE c σ' el h).bind fun y h => .ok (some y) h)) xs h1).bind fun ys h2 => onl (live σ h2 xs it) (if ys.length ≤ sz then .ok (.lst ys) h2 else .bad)
  | .compIf tg it cn el, h => (evI c σ it h).bind fun xs h1 => (compL (fun x h => onl (live σ h xs it) ((R.of h (tg.set x (wipe σ tg.slots))).bind fun σ' h => (evE c σ' cn h).bind fun b h => (R.of h (truth b)).bind fun k h => match k with
    | true => (evE c σ' el h).bind fun y h => .ok (some y) h
    | false => .ok none h)) xs h1).bind fun ys h2 => onl (live σ h2 xs it) (if ys.length ≤ sz then .ok (.lst ys) h2 else .bad)
  | .mk e, h => (evE c σ e h).bind fun x h1 => match x with
    | .lst xs => .ok (.cell h1.length) (h1 ++ [.lst xs])
    | _ => .bad
  | .sset a, h => (evE c σ a h).bind fun x h1 => .of h1 (bSset (rd h1 x))
  | .lset a, h => (evE c σ a h).bind fun x h1 => .of h1 (bLset (rd h1 x))
  | .sumL a, h => (evE c σ a h).bind fun x h1 => .of h1 (bSumL (rd h1 x))
noncomputable def evP (c : Cl) (σ : Fr) : Po → Heap → R (Option Int)
  | .no, h => .ok none h
  | .at e, h => (evE c σ e h).bind fun x h1 => match x with
    | .int i => .ok (some i) h1
    | _ => .bad
noncomputable def evEs (c : Cl) (σ : Fr) : Exs → Heap → R (List D)
  | .nil, h => .ok [] h
  | .cons e es, h => (evE c σ e h).bind fun x h1 => (evEs c σ es h1).bind fun xs h2 => .ok (x :: xs) h2
noncomputable def evI (c : Cl) (σ : Fr) : It → Heap → R (List D)
  | .seq e, h => (evE c σ e h).bind fun x h1 => .of h1 (walk x)
  | .rng1 a, h => (evE c σ a h).bind fun x h1 => match x with
    | .int i => if rngOk i then .ok (rngL 0 i.toNat) h1 else .bad
    | _ => .bad
  | .rng2 a b, h => (evE c σ a h).bind fun x h1 => (evE c σ b h1).bind fun y h2 => match x, y with
    | .int i, .int j => if rngOk i && rngOk j then .ok (rngL i (j - i).toNat) h2 else .bad
    | _, _ => .bad
  | .enum e, h => (evE c σ e h).bind fun x h1 => .of h1 ((walk x).map (enumL 0))
  | .zip a b, h => (evE c σ a h).bind fun x h1 => (evE c σ b h1).bind fun y h2 => .of h2 ((items x).bind fun xs => (items y).map fun ys => zipL xs ys)
  | .own j, h => match σ[j]? with
    | some (.own xs) => .ok xs h
    | _ => .bad
  | .cel j, h => match σ[j]? with
    | some (.v (.cell a)) => (match h[a]? with
      | some (.lst xs) => .ok xs h
      | _ => .bad)
    | _ => .bad
end
inductive Out where
  | nx (σ : Fr) (h : Heap) | rt (d : D) (h : Heap) | ct (σ : Fr) (h : Heap) | ex (k : Nat) (w : D) (σ : Fr) (h : Heap) | bad
def R.out {α : Type} (σ : Fr) : R α → (α → Heap → Out) → Out
  | .ok a h, f => f a h
  | .ex k w h, _ => .ex k w σ h
  | .bad, _ => .bad
def loopF (tg : Tg) (f : Fr → Heap → Out) : List D → Fr → Heap → Out
  | [], σ, h => .nx σ h
  | x :: r, σ, h => match tg.set x σ with
    | none => .bad
    | some σ1 => match f σ1 h with
      | .nx σ2 h2 => loopF tg f r σ2 h2
      | .ct σ2 h2 => loopF tg f r σ2 h2
      | o => o
def loopW (t : Fr → Heap → R Bool) (f : Fr → Heap → Out) : Nat → Fr → Heap → Out
  | 0, _, _ => .bad
  | n + 1, σ, h => (t σ h).out σ fun k h1 => match k with
    | false => .nx σ h1
    | true => match f σ h1 with
      | .nx σ2 h2 => loopW t f n σ2 h2
      | .ct σ2 h2 => loopW t f n σ2 h2
      | o => o
noncomputable def evT (c : Cl) (σ : Fr) (e : Ex) (h : Heap) : R Bool := (evE c σ e h).bind fun x h1 => .of h1 (truth x)
mutual
noncomputable def evS (c : Cl) : S → Fr → Heap → Out
  | .asg tg e, σ, h => (evE c σ e h).out σ fun x h1 => match tg.set x σ with
    | some σ1 => .nx σ1 h1
    | none => .bad
  | .own i e, σ, h => (evE c σ e h).out σ fun x h1 => match x with
    | .lst xs => .nx (σ.set i (.own xs)) h1
    | _ => .bad
  | .frz i, σ, h => match σ[i]? with
    | some (.own xs) => .nx (σ.set i (.v (.lst xs))) h
    | _ => .bad
  | .cel i, σ, h => match σ[i]? with
    | some (.own xs) => .nx (σ.set i (.v (.cell h.length))) (h ++ [.lst xs])
    | _ => .bad
  | .setix o i e, σ, h => (evE c σ e h).out σ fun x h1 => (evE c σ o h1).out σ fun y h2 => (evE c σ i h2).out σ fun z h3 => match y, z with
    | .cell a, .int k => match h3[a]? with
      | some (.lst xs) => match ixN xs.length k with
        | some j => .nx σ (h3.set a (.lst (xs.set j x)))
        | none => .bad
      | _ => .bad
    | _, _ => .bad
  | .setown j i e, σ, h => (evE c σ e h).out σ fun x h1 => match σ[j]? with
    | some (.own xs) => (evE c σ i h1).out σ fun z h3 => match z with
      | .int k => match ixN xs.length k with
        | some n => .nx (σ.set j (.own (xs.set n x))) h3
        | none => .bad
      | _ => .bad
    | _ => .bad
  | .app j e, σ, h => match σ[j]? with
    | some (.own xs) => (evE c σ e h).out σ fun x h1 => if xs.length < sz then .nx (σ.set j (.own (xs ++ [x]))) h1 else .bad
    | _ => .bad
  | .appC o e, σ, h => (evE c σ o h).out σ fun y h1 => match y with
    | .cell a => match h1[a]? with
      | some (.lst _) => (evE c σ e h1).out σ fun x h2 => match h2[a]? with
        | some (.lst xs) => if xs.length < sz then .nx σ (h2.set a (.lst (xs ++ [x]))) else .bad
        | _ => .bad
      | _ => .bad
    | _ => .bad
  | .rem j e, σ, h => match σ[j]? with
    | some (.own xs) => (evE c σ e h).out σ fun x h1 => match x, intsD xs with
      | .int k, some ns => if k ∈ ns then .nx (σ.set j (.own ((ns.erase k).map .int))) h1 else .bad
      | _, _ => .bad
    | _ => .bad
  | .expr e, σ, h => (evE c σ e h).out σ fun _ h1 => .nx σ h1
  | .ret e, σ, h => (evE c σ e h).out σ fun x h1 => .rt x h1
  | .retown i, σ, h => match σ[i]? with
    | some (.own xs) => .rt (.lst xs) h
    | _ => .bad
  | .retn, _, h => .rt .non h
  | .pass, σ, h => .nx σ h
  | .cont, σ, h => .ct σ h
  | .ite t a b, σ, h => (evT c σ t h).out σ fun k h1 => match k with
    | true => evSs c a σ h1
    | false => evSs c b σ h1
  | .for_ tg it b, σ, h => (evI c σ it h).out σ fun xs h1 => loopF tg (fun σ h => evSs c b σ h) xs σ h1
  | .whl n t b, σ, h => loopW (fun σ h => evT c σ t h) (fun σ h => evSs c b σ h) n σ h
  | .rais k es, σ, h => (evEs c σ es h).out σ fun ds h1 => match ds with
    | [_] => .ex k .non σ h1
    | _ => .bad
  | .tryx b k i hd, σ, h => match evSs c b σ h with
    | .ex k' w σ1 h1 => if k' == k || k == 1 then (match i with
        | some j => match evSs c hd (σ1.set j (.v (.exc k' w))) h1 with
          | .nx σ2 h2 => .nx (σ2.set j .no) h2
          | o => o
        | none => evSs c hd σ1 h1) else .ex k' w σ1 h1
    | o => o
noncomputable def evSs (c : Cl) : Ss → Fr → Heap → Out
  | .nil, σ, h => .nx σ h
  | .cons s r, σ, h => match evS c s σ h with
    | .nx σ1 h1 => evSs c r σ1 h1
    | o => o
end
/-- a def: how many parameters, how many slots, its body -/
structure Fd where
  ps : Nat
  n : Nat
  body : Ss
noncomputable def Fd.run (c : Cl) (fd : Fd) (ds : List D) (h : Heap) : R D :=
  if ds.length = fd.ps then (match evSs c fd.body (ds.map .v ++ List.replicate (fd.n - fd.ps) .no) h with
    | .nx _ h1 => .ok .non h1
    | .rt d h1 => .ok d h1
    | .ex k w _ h1 => .ex k w h1
    | _ => .bad) else .bad
abbrev Env := Nat → Option Fd
noncomputable def callN (E : Env) : Nat → Cl
  | 0, _, _, _ => .bad
  | n + 1, f, ds, h => match E f with
    | some fd => fd.run (callN E n) ds h
    | none => .bad
end Lb
end
section
set_option Elab.async false
set_option linter.all false
set_option maxRecDepth 100000
namespace Lb
open PySem PySem.Spec PyProof.Rows L2
abbrev St := L2.St

def toS (x : Tx) : Str := ⟨x.toArray⟩
theorem toS_inj {x y : Tx} (h : toS x = toS y) : x = y := by
  have e : x.toArray = y.toArray := congrArg Str.cps h
  simpa using e
theorem toS_list (x : Tx) : (toS x).cps.toList = x := by simp [toS]
theorem toS_len (x : Tx) : (toS x).length = x.length := by simp [toS, Str.length]

abbrev Fa := Nat → Option Addr
mutual
inductive Rep (K : PySem.W.Frag) (fa : Fa) (F : Hp) (al : List Addr) : V → D → Prop
  | non : Rep K fa F al .non .non
  | bl (b : Bool) : Rep K fa F al (.bl b) (.bl b)
  | int (i : Int) : Rep K fa F al (.int i) (.int i)
  | str (x : Tx) : Rep K fa F al (.str (toS x)) (.str x)
  | tup {a : Addr} {vs : List V} {ds : List D} : SqT K F a vs → RepL K fa F al vs ds → Rep K fa F al (.ref a) (.tup ds)
  | lst {a : Addr} {vs : List V} {ds : List D} : F a = some (.lst vs) → RepL K fa F al vs ds → Rep K fa F al (.ref a) (.lst ds)
  | dic {a : Addr} {kvs : List (Key × V)} {ds : List (Tx × D)} : F a = some (.dK kvs) → RepK K fa F al kvs ds → Rep K fa F al (.ref a) (.dic ds)
  | cell {a : Addr} {i : Nat} : al[i]? = some a → Rep K fa F al (.ref a) (.cell i)
  | fn {a : Addr} {f : Nat} : fa f = some a → Rep K fa F al (.ref a) (.fn f)
  | scr {a : Addr} {ns : List Int} : SqL K F a (ns.map V.int) → Rep K fa F al (.ref a) (.scr ns)
inductive RepL (K : PySem.W.Frag) (fa : Fa) (F : Hp) (al : List Addr) : List V → List D → Prop
  | nil : RepL K fa F al [] []
  | cons {v : V} {d : D} {vs : List V} {ds : List D} : Rep K fa F al v d → RepL K fa F al vs ds → RepL K fa F al (v :: vs) (d :: ds)
inductive RepK (K : PySem.W.Frag) (fa : Fa) (F : Hp) (al : List Addr) : List (Key × V) → List (Tx × D) → Prop
  | nil : RepK K fa F al [] []
  | cons {k : Tx} {v : V} {d : D} {vs : List (Key × V)} {ds : List (Tx × D)} : Rep K fa F al v d → RepK K fa F al vs ds → RepK K fa F al ((.inr (toS k), v) :: vs) ((k, d) :: ds)
end
section
variable {K : PySem.W.Frag} {fa : Fa} {F F' : Hp} {al al' : List Addr}
theorem rd_mono (hF : ∀ p o, F p = some o → F' p = some o) {a : Addr} {u : HO} (h : Rd F a u) : Rd F' a u := by
  rcases h with h | ⟨o, h⟩
  · exact .inl (hF _ _ h)
  · exact .inr ⟨o, hF _ _ h⟩
theorem sqL_mono (hF : ∀ p o, F p = some o → F' p = some o) {a : Addr} {xs : List V} (h : SqL K F a xs) : SqL K F' a xs := by
  rcases h with h | h
  · exact .inl (rd_mono hF h)
  · exact .inr h
theorem sqT_mono (hF : ∀ p o, F p = some o → F' p = some o) {a : Addr} {xs : List V} (h : SqT K F a xs) : SqT K F' a xs := by
  rcases h with h | h
  · exact .inl (rd_mono hF h)
  · exact .inr h
mutual
theorem Rep.mono (hF : ∀ p o, F p = some o → F' p = some o) (ha : ∀ (i : Nat) a, al[i]? = some a → al'[i]? = some a) : ∀ {d : D} {v : V}, Rep K fa F al v d → Rep K fa F' al' v d
  | _, _, .non => .non
  | _, _, .bl b => .bl b
  | _, _, .int i => .int i
  | _, _, .str x => .str x
  | _, _, .tup h r => .tup (sqT_mono hF h) (RepL.mono hF ha r)
  | _, _, .lst h r => .lst (hF _ _ h) (RepL.mono hF ha r)
  | _, _, .dic h r => .dic (hF _ _ h) (RepK.mono hF ha r)
  | _, _, .cell h => .cell (ha _ _ h)
  | _, _, .fn h => .fn h
  | _, _, .scr h => .scr (sqL_mono hF h)
theorem RepL.mono (hF : ∀ p o, F p = some o → F' p = some o) (ha : ∀ (i : Nat) a, al[i]? = some a → al'[i]? = some a) : ∀ {ds : List D} {vs : List V}, RepL K fa F al vs ds → RepL K fa F' al' vs ds
  | _, _, .nil => .nil
  | _, _, .cons h r => .cons (Rep.mono hF ha h) (RepL.mono hF ha r)
theorem RepK.mono (hF : ∀ p o, F p = some o → F' p = some o) (ha : ∀ (i : Nat) a, al[i]? = some a → al'[i]? = some a) : ∀ {ds : List (Tx × D)} {vs : List (Key × V)}, RepK K fa F al vs ds → RepK K fa F' al' vs ds
  | _, _, .nil => .nil
  | _, _, .cons h r => .cons (Rep.mono hF ha h) (RepK.mono hF ha r)
end
theorem RepL.length : ∀ {vs : List V} {ds : List D}, RepL K fa F al vs ds → vs.length = ds.length
  | _, _, .nil => rfl
  | _, _, .cons _ r => congrArg (· + 1) (RepL.length r)
theorem RepL.get : ∀ {vs : List V} {ds : List D} {i : Nat} {d : D}, RepL K fa F al vs ds → ds[i]? = some d → ∃ v, vs[i]? = some v ∧ Rep K fa F al v d
  | _, _, _, _, .nil, e => by simp at e
  | _, _, 0, _, .cons r _, e => by simp at e; subst e; exact ⟨_, rfl, r⟩
  | _, _, i + 1, d, .cons _ t, e => by
    obtain ⟨u, h1, h2⟩ := RepL.get (i := i) (d := d) t (by simpa using e)
    exact ⟨u, by simpa using h1, h2⟩
theorem RepL.get' : ∀ {vs : List V} {ds : List D} {i : Nat} {v : V}, RepL K fa F al vs ds → vs[i]? = some v → ∃ d, ds[i]? = some d ∧ Rep K fa F al v d
  | _, _, _, _, .nil, e => by simp at e
  | _, _, 0, _, .cons r _, e => by simp at e; subst e; exact ⟨_, rfl, r⟩
  | _, _, i + 1, d, .cons _ t, e => by
    obtain ⟨u, h1, h2⟩ := RepL.get' (i := i) (v := d) t (by simpa using e)
    exact ⟨u, by simpa using h1, h2⟩
theorem RepL.append : ∀ {vs ws : List V} {ds es : List D}, RepL K fa F al vs ds → RepL K fa F al ws es → RepL K fa F al (vs ++ ws) (ds ++ es)
  | _, _, _, _, .nil, s => s
  | _, _, _, _, .cons r t, s => .cons r (RepL.append t s)
theorem RepL.take : ∀ {vs : List V} {ds : List D} (n : Nat), RepL K fa F al vs ds → RepL K fa F al (vs.take n) (ds.take n)
  | _, _, 0, _ => .nil
  | _, _, _ + 1, .nil => .nil
  | _, _, n + 1, .cons r t => .cons r (RepL.take n t)
theorem RepL.drop : ∀ {vs : List V} {ds : List D} (n : Nat), RepL K fa F al vs ds → RepL K fa F al (vs.drop n) (ds.drop n)
  | _, _, 0, r => r
  | _, _, _ + 1, .nil => .nil
  | _, _, n + 1, .cons _ t => RepL.drop n t
theorem RepL.reverse {vs : List V} {ds : List D} (h : RepL K fa F al vs ds) : RepL K fa F al vs.reverse ds.reverse := by
  induction h using RepL.rec (motive_1 := fun _ _ _ => True) (motive_3 := fun _ _ _ => True) with
  | nil => exact .nil
  | cons h1 h2 _ ih => rw [List.reverse_cons, List.reverse_cons]; exact ih.append (.cons h1 .nil)
  | _ => trivial
theorem RepL.set {v : V} {d : D} (h : Rep K fa F al v d) : ∀ {vs : List V} {ds : List D} (i : Nat), RepL K fa F al vs ds → RepL K fa F al (vs.set i v) (ds.set i d)
  | _, _, _, .nil => .nil
  | _, _, 0, .cons _ t => .cons h t
  | _, _, i + 1, .cons q t => .cons q (RepL.set h i t)
end

structure Wd where
  F : Hp
  al : List Addr
abbrev Wd.R (w : Wd) (K : PySem.W.Frag) (fa : Fa) : V → D → Prop := Rep K fa w.F w.al
abbrev Wd.RL (w : Wd) (K : PySem.W.Frag) (fa : Fa) : List V → List D → Prop := RepL K fa w.F w.al
def CellR (K : PySem.W.Frag) (fa : Fa) (w : Wd) : Cell → Option HO → Prop
  | .lst xs, some (.lst vs) => w.RL K fa vs xs
  | .dic xs, some (.dK vs) => RepK K fa w.F w.al vs xs
  | _, _ => False
structure Sim (K : PySem.W.Frag) (fa : Fa) (w : Wd) (h : Heap) (H : Hp) : Prop where
  sub : ∀ p o, w.F p = some o → H p = some o
  nd : w.al.Nodup
  out : ∀ p ∈ w.al, w.F p = none
  len : h.length = w.al.length
  cell : ∀ (i : Nat) c, h[i]? = some c → ∃ p, w.al[i]? = some p ∧ CellR K fa w c (H p)
structure Ext (w : Wd) (H : Hp) (w' : Wd) (H' : Hp) : Prop where
  F : ∀ p o, w.F p = some o → w'.F p = some o
  al : ∀ (i : Nat) a, w.al[i]? = some a → w'.al[i]? = some a
  keep : ∀ p o, H p = some o → p ∉ w.al → H' p = some o
  tr : ∀ p o, H p = some o → ∃ o', H' p = some o'
  new : ∀ p ∈ w'.al, p ∈ w.al ∨ H p = none
  frz : ∀ p o, w'.F p = some o → w.F p = some o ∨ H p = none
theorem Ext.refl {w : Wd} {H : Hp} : Ext w H w H := ⟨fun _ _ h => h, fun _ _ h => h, fun _ _ h _ => h, fun _ o h => ⟨o, h⟩, fun _ h => .inl h, fun _ _ h => .inl h⟩
theorem none_of_tr {H H' : Hp} (tr : ∀ p o, H p = some o → ∃ o', H' p = some o') {p : Addr} (h : H' p = none) : H p = none := by
  cases e : H p with
  | none => rfl
  | some o => obtain ⟨o', e'⟩ := tr p o e; rw [h] at e'; cases e'
theorem Ext.trans {w w1 w2 : Wd} {H H1 H2 : Hp} (a : Ext w H w1 H1) (b : Ext w1 H1 w2 H2) : Ext w H w2 H2 where
  F := fun p o h => b.F p o (a.F p o h)
  al := fun i x h => b.al i x (a.al i x h)
  keep := fun p o h n => b.keep p o (a.keep p o h n) fun m => (a.new p m).elim n fun e => by rw [h] at e; cases e
  tr := fun p o h => by obtain ⟨o1, h1⟩ := a.tr p o h; exact b.tr p o1 h1
  new := fun p h => (b.new p h).elim (a.new p) fun e => .inr (none_of_tr a.tr e)
  frz := fun p o h => (b.frz p o h).elim (a.frz p o) fun e => .inr (none_of_tr a.tr e)
theorem Ext.R {w w1 : Wd} {H H1 : Hp} (a : Ext w H w1 H1) {K : PySem.W.Frag} {fa : Fa} {v : V} {d : D} (h : w.R K fa v d) : w1.R K fa v d := Rep.mono a.F a.al h
theorem Ext.RL {w w1 : Wd} {H H1 : Hp} (a : Ext w H w1 H1) {K : PySem.W.Frag} {fa : Fa} {v : List V} {d : List D} (h : w.RL K fa v d) : w1.RL K fa v d := RepL.mono a.F a.al h

/-- the slots: values, and lists of one's own, made behind the entry H0 -/
structure SRep (K : PySem.W.Frag) (fa : Fa) (H0 : Hp) (w : Wd) (H : Hp) (σ : Fr) (τ : St) : Prop where
  len : σ.length = τ.length
  val : ∀ (i : Nat) d, σ[i]? = some (.v d) → ∃ v, τ[i]? = some (some v) ∧ w.R K fa v d
  own : ∀ (i : Nat) xs, σ[i]? = some (.own xs) → ∃ p vs, τ[i]? = some (some (.ref p)) ∧ H p = some (.lst vs) ∧ w.RL K fa vs xs ∧ w.F p = none ∧ p ∉ w.al ∧ H0 p = none
  apart : ∀ (i j : Nat) xs ys p, σ[i]? = some (.own xs) → σ[j]? = some (.own ys) → τ[i]? = some (some (.ref p)) → τ[j]? = some (some (.ref p)) → i = j
section
variable {K : PySem.W.Frag} {fa : Fa} {H0 H H' : Hp} {w w' : Wd} {σ : Fr} {τ : St}
theorem SRep.ext (s : SRep K fa H0 w H σ τ) (e : Ext w H w' H') : SRep K fa H0 w' H' σ τ where
  len := s.len
  val := fun i d h => by obtain ⟨v, h1, h2⟩ := s.val i d h; exact ⟨v, h1, e.R h2⟩
  own := fun i xs h => by
    obtain ⟨p, vs, h1, h2, h3, h4, h5, h6⟩ := s.own i xs h
    refine ⟨p, vs, h1, e.keep p _ h2 h5, e.RL h3, ?_, fun m => ?_, h6⟩
    · cases q : w'.F p with
      | none => rfl
      | some o => rcases e.frz p o q with z | z
                  · rw [h4] at z; cases z
                  · rw [h2] at z; cases z
    · rcases e.new p m with z | z
      · exact h5 z
      · rw [h2] at z; cases z
  apart := s.apart
theorem SRep.setv (s : SRep K fa H0 w H σ τ) {i : Nat} {d : D} {v : V} (r : w.R K fa v d) : SRep K fa H0 w H (σ.set i (.v d)) (τ.set i (some v)) where
  len := by rw [List.length_set, List.length_set]; exact s.len
  val := fun j e h => by
    by_cases q : i = j
    · subst q
      have lt : i < σ.length := by
        have := (List.getElem?_eq_some_iff.mp h).1
        rwa [List.length_set] at this
      rw [List.getElem?_set_self lt] at h
      cases h
      exact ⟨v, List.getElem?_set_self (by rw [← s.len]; exact lt), r⟩
    · rw [List.getElem?_set_ne q] at h
      rw [List.getElem?_set_ne q]
      exact s.val j e h
  own := fun j e h => by
    by_cases q : i = j
    · subst q
      have lt : i < σ.length := by
        have := (List.getElem?_eq_some_iff.mp h).1
        rwa [List.length_set] at this
      rw [List.getElem?_set_self lt] at h
      cases h
    · rw [List.getElem?_set_ne q] at h
      rw [List.getElem?_set_ne q]
      exact s.own j e h
  apart := fun j k xs ys p h1 h2 h3 h4 => by
    have ne : ∀ m zs, (σ.set i (.v d))[m]? = some (.own zs) → i ≠ m := fun m zs h q => by
      subst q
      have lt : i < σ.length := by
        have := (List.getElem?_eq_some_iff.mp h).1
        rwa [List.length_set] at this
      rw [List.getElem?_set_self lt] at h
      cases h
    have n1 := ne j xs h1
    have n2 := ne k ys h2
    rw [List.getElem?_set_ne n1] at h1 h3
    rw [List.getElem?_set_ne n2] at h2 h4
    exact s.apart j k xs ys p h1 h2 h3 h4
theorem SRep.setno (s : SRep K fa H0 w H σ τ) {i : Nat} {o : Option V} : SRep K fa H0 w H (σ.set i .no) (τ.set i o) where
  len := by rw [List.length_set, List.length_set]; exact s.len
  val := fun j e h => by
    by_cases q : i = j
    · subst q
      have lt : i < σ.length := by
        have := (List.getElem?_eq_some_iff.mp h).1
        rwa [List.length_set] at this
      rw [List.getElem?_set_self lt] at h
      cases h
    · rw [List.getElem?_set_ne q] at h
      rw [List.getElem?_set_ne q]
      exact s.val j e h
  own := fun j e h => by
    by_cases q : i = j
    · subst q
      have lt : i < σ.length := by
        have := (List.getElem?_eq_some_iff.mp h).1
        rwa [List.length_set] at this
      rw [List.getElem?_set_self lt] at h
      cases h
    · rw [List.getElem?_set_ne q] at h
      rw [List.getElem?_set_ne q]
      exact s.own j e h
  apart := fun j k xs ys p h1 h2 h3 h4 => by
    have ne : ∀ m zs, (σ.set i .no)[m]? = some (.own zs) → i ≠ m := fun m zs h q => by
      subst q
      have lt : i < σ.length := by
        have := (List.getElem?_eq_some_iff.mp h).1
        rwa [List.length_set] at this
      rw [List.getElem?_set_self lt] at h
      cases h
    have n1 := ne j xs h1
    have n2 := ne k ys h2
    rw [List.getElem?_set_ne n1] at h1 h3
    rw [List.getElem?_set_ne n2] at h2 h4
    exact s.apart j k xs ys p h1 h2 h3 h4
theorem SRep.wipe (s : SRep K fa H0 w H σ τ) : ∀ vs : List Nat, SRep K fa H0 w H (Lb.wipe σ vs) (L2.wipe τ vs)
  | [] => s
  | v :: vs => (SRep.wipe s vs).setno
end

/-- what is wanted of a run: Rel tells how its answer stands -/
def Good {α β : Type} (K : PySem.W.Frag) (fa : Fa) (Rel : Wd → Hp → β → α → Prop) (XR : Nat → D → Value → Option Addr → Hp → Prop) (W : WX) (τ : St) (w : Wd) (H : Hp) (r : R α) (Q : β → Hp → Prop) : Prop := match r with
  | .ok d h' => ∀ w' H' v, Ext w H w' H' → Sim K fa w' h' H' → Rel w' H' v d → Q v H'
  | .ex k p h' => ∀ w' H' cls dx, Ext w H w' H' → Sim K fa w' h' H' → XR k p cls dx H' → W cls dx τ H'
  | .bad => False
section
variable {α β γ δ : Type} {K : PySem.W.Frag} {fa : Fa} {Rel : Wd → Hp → β → α → Prop} {Rel' : Wd → Hp → δ → γ → Prop} {XR : Nat → D → Value → Option Addr → Hp → Prop} {W : WX} {τ : St} {w w1 : Wd} {H H1 : Hp}
theorem Good.ext {r : R α} {Q : β → Hp → Prop} (g : Good K fa Rel XR W τ w H r Q) (e : Ext w H w1 H1) : Good K fa Rel XR W τ w1 H1 r Q := by
  cases r with
  | ok d h' => exact fun w' H' v e' s r => g w' H' v (e.trans e') s r
  | ex k p h' => exact fun w' H' c d e' s r => g w' H' c d (e.trans e') s r
  | bad => exact g
theorem Good.bind {r : R α} {f : α → Heap → R γ} {Q : δ → Hp → Prop} {T : β → Hp → Prop} (g : Good K fa Rel' XR W τ w H (r.bind f) Q)
    (st : ∀ d h1 w1 H1 v, r = .ok d h1 → Ext w H w1 H1 → Sim K fa w1 h1 H1 → Rel w1 H1 v d → Good K fa Rel' XR W τ w1 H1 (f d h1) Q → T v H1) : Good K fa Rel XR W τ w H r T := by
  cases r with
  | ok d h1 => exact fun w' H' v e s q => st d h1 w' H' v rfl e s q (Good.ext (r := f d h1) g e)
  | ex k p h' => exact g
  | bad => exact g
end
end Lb
end
section
set_option Elab.async false
set_option linter.all false
set_option maxRecDepth 100000
namespace Lb
open PySem PySem.Spec PyProof.Rows L2

theorem szl {n : Nat} (h : n ≤ sz) : n ≤ sizeLine := by rw [sizeLine_eq]; exact h

/-- a value that is looked at: it stands for its datum, or it is a list (a dict) that may change, as it stands -/
inductive VP (K : PySem.W.Frag) (fa : Fa) (F : Hp) (al : List Addr) (H : Hp) : V → D → Prop
  | rep {v : V} {d : D} : Rep K fa F al v d → VP K fa F al H v d
  | lst {p : Addr} {vs : List V} {xs : List D} : H p = some (.lst vs) → RepL K fa F al vs xs → VP K fa F al H (.ref p) (.lst xs)
  | dic {p : Addr} {kvs : List (Key × V)} {xs : List (Tx × D)} : H p = some (.dK kvs) → RepK K fa F al kvs xs → VP K fa F al H (.ref p) (.dic xs)
/-- an answer: a datum that is no list of its own, or a new list, a new tuple -/
inductive Res (K : PySem.W.Frag) (fa : Fa) (F : Hp) (al : List Addr) (H : Hp) : V → D → Hp → Prop
  | same {v : V} {d : D} : Rep K fa F al v d → (∀ xs, d ≠ .lst xs) → Res K fa F al H v d H
  | lst {p : Addr} {vs : List V} {xs : List D} : H p = none → RepL K fa F al vs xs → Res K fa F al H (.ref p) (.lst xs) (upd H p (.lst vs))
  | tup {p : Addr} {vs : List V} {xs : List D} : H p = none → RepL K fa F al vs xs → Res K fa F al H (.ref p) (.tup xs) (upd H p (.tup vs))
  | dic {p : Addr} {kvs : List (Key × V)} {xs : List (Tx × D)} : H p = none → RepK K fa F al kvs xs → Res K fa F al H (.ref p) (.dic xs) (upd H p (.dK kvs))

section
variable {K : PySem.W.Frag} {fa : Fa} {F : Hp} {al : List Addr} {H : Hp}
theorem VP.int {v : V} {i : Int} (h : VP K fa F al H v (.int i)) : v = .int i := by
  cases h with
  | rep h => cases h; rfl
theorem VP.bl {v : V} {i : Bool} (h : VP K fa F al H v (.bl i)) : v = .bl i := by
  cases h with
  | rep h => cases h; rfl
theorem VP.str {v : V} {i : Tx} (h : VP K fa F al H v (.str i)) : v = .str (toS i) := by
  cases h with
  | rep h => cases h; rfl
theorem VP.non {v : V} (h : VP K fa F al H v .non) : v = .non := by
  cases h with
  | rep h => cases h; rfl
theorem VP.list (hs : ∀ p o, F p = some o → H p = some o) {v : V} {xs : List D} (h : VP K fa F al H v (.lst xs)) : ∃ p vs, v = .ref p ∧ H p = some (.lst vs) ∧ RepL K fa F al vs xs := by
  cases h with
  | rep h => cases h with
    | lst h r => exact ⟨_, _, rfl, hs _ _ h, r⟩
  | lst h r => exact ⟨_, _, rfl, h, r⟩
theorem VP.tuple (hs : ∀ p o, F p = some o → H p = some o) {v : V} {xs : List D} (h : VP K fa F al H v (.tup xs)) : ∃ p vs, v = .ref p ∧ SqT K H p vs ∧ RepL K fa F al vs xs := by
  cases h with
  | rep h => cases h with
    | tup h r => exact ⟨_, _, rfl, sqT_mono hs h, r⟩
theorem VP.dict (hs : ∀ p o, F p = some o → H p = some o) {v : V} {xs : List (Tx × D)} (h : VP K fa F al H v (.dic xs)) : ∃ p vs, v = .ref p ∧ H p = some (.dK vs) ∧ RepK K fa F al vs xs := by
  cases h with
  | rep h => cases h with
    | dic h r => exact ⟨_, _, rfl, hs _ _ h, r⟩
  | dic h r => exact ⟨_, _, rfl, h, r⟩
theorem VP.script {v : V} {xs : List Int} (hs : ∀ p o, F p = some o → H p = some o) (h : VP K fa F al H v (.scr xs)) : ∃ p, v = .ref p ∧ SqL K H p (xs.map V.int) := by
  cases h with
  | rep h => cases h with
    | scr h => exact ⟨_, rfl, sqL_mono hs h⟩
end

mutual
def toP : D → PyData
  | .non => .none
  | .bl b => .bool b
  | .int i => .int i
  | .str x => .str (toS x)
  | .tup xs => .tuple (toPL xs)
  | .lst xs => .list (toPL xs)
  | _ => .none
def toPL : List D → List PyData
  | [] => []
  | x :: xs => toP x :: toPL xs
end
mutual
theorem toP_eqv : ∀ a b : D, plain a = true → plain b = true → PyData.eqv (toP a) (toP b) = eqv a b
  | .non, b, _, hb => by cases b <;> first | rfl | (simp [plain] at hb; done) | simp [toP, eqv, PyData.eqv]
  | .bl x, b, _, hb => by cases b <;> first | rfl | (simp [plain] at hb; done) | simp [toP, eqv, PyData.eqv]
  | .int x, b, _, hb => by cases b <;> first | rfl | (simp [plain] at hb; done) | simp [toP, eqv, PyData.eqv]
  | .str x, b, _, hb => by
    cases b with
    | str y =>
      simp only [toP, eqv, PyData.eqv]
      by_cases h : x = y
      · subst h; simp
      · rw [beq_eq_false_iff_ne.mpr h, beq_eq_false_iff_ne.mpr fun e => h (toS_inj e)]
    | _ => first | rfl | (simp [plain] at hb; done) | simp [toP, eqv, PyData.eqv]
  | .tup xs, b, ha, hb => by
    cases b with
    | tup ys => simp only [toP, eqv, PyData.eqv]; exact toPL_eqv xs ys (by simpa [plain] using ha) (by simpa [plain] using hb)
    | _ => first | rfl | (simp [plain] at hb; done) | simp [toP, eqv, PyData.eqv]
  | .lst xs, b, ha, hb => by
    cases b with
    | lst ys => simp only [toP, eqv, PyData.eqv]; exact toPL_eqv xs ys (by simpa [plain] using ha) (by simpa [plain] using hb)
    | _ => first | rfl | (simp [plain] at hb; done) | simp [toP, eqv, PyData.eqv]
  | .dic _, _, ha, _ => by simp [plain] at ha
  | .cell _, _, ha, _ => by simp [plain] at ha
  | .fn _, _, ha, _ => by simp [plain] at ha
  | .exc _ _, _, ha, _ => by simp [plain] at ha
  | .scr _, _, ha, _ => by simp [plain] at ha
theorem toPL_eqv : ∀ xs ys : List D, plainL xs = true → plainL ys = true → PyData.eqvAll (toPL xs) (toPL ys) = eqvL xs ys
  | [], [], _, _ => by simp [toPL, eqvL, PyData.eqvAll]
  | [], _ :: _, _, _ => by simp [toPL, eqvL, PyData.eqvAll]
  | _ :: _, [], _, _ => by simp [toPL, eqvL, PyData.eqvAll]
  | x :: xs, y :: ys, ha, hb => by
    simp only [plainL, Bool.and_eq_true] at ha hb
    simp only [toPL, eqvL, PyData.eqvAll]
    rw [toP_eqv x y ha.1 hb.1, toPL_eqv xs ys ha.2 hb.2]
end
mutual
theorem toP_lay : ∀ a : D, plain a = true → (toP a).canLay0 = true
  | .non, _ => by simp [toP, PyData.canLay0]
  | .bl x, _ => by simp [toP, PyData.canLay0]
  | .int x, _ => by simp [toP, PyData.canLay0]
  | .str x, h => by
    have h' : (x.all fun c => decide (c < 1114112)) = true := by simpa [plain] using h
    have e : (toP (.str x)).canLay0 = PyData.strOk (toS x) := by simp [toP, PyData.canLay0]
    rw [e]
    show (x.toArray.all fun c => decide (c < 0x110000)) = true
    rw [← Array.all_toList]
    exact h'
  | .tup xs, h => by simp only [toP, PyData.canLay0]; exact toPL_lay xs (by simpa [plain] using h)
  | .lst xs, h => by simp only [toP, PyData.canLay0]; exact toPL_lay xs (by simpa [plain] using h)
  | .dic _, h => by simp [plain] at h
  | .cell _, h => by simp [plain] at h
  | .fn _, h => by simp [plain] at h
  | .exc _ _, h => by simp [plain] at h
  | .scr _, h => by simp [plain] at h
theorem toPL_lay : ∀ xs : List D, plainL xs = true → PyData.canLayAll0 (toPL xs) = true
  | [], _ => by simp [toPL, PyData.canLayAll0]
  | x :: xs, h => by
    simp only [plainL, Bool.and_eq_true] at h
    simp only [toPL, PyData.canLayAll0, toP_lay x h.1, toPL_lay xs h.2, Bool.and_self]
end
mutual
theorem toP_depth : ∀ a : D, (toP a).depth = depth a
  | .non => by simp [toP, PyData.depth, depth]
  | .bl x => by simp [toP, PyData.depth, depth]
  | .int x => by simp [toP, PyData.depth, depth]
  | .str x => by simp [toP, PyData.depth, depth]
  | .tup xs => by simp only [toP, PyData.depth, depth]; rw [toPL_depth xs]
  | .lst xs => by simp only [toP, PyData.depth, depth]; rw [toPL_depth xs]
  | .dic _ => by simp [toP, PyData.depth, depth]
  | .cell _ => by simp [toP, PyData.depth, depth]
  | .fn _ => by simp [toP, PyData.depth, depth]
  | .exc _ _ => by simp [toP, PyData.depth, depth]
  | .scr _ => by simp [toP, PyData.depth, depth]
theorem toPL_depth : ∀ xs : List D, PyData.depthAll (toPL xs) = depthL xs
  | [] => by simp [toPL, PyData.depthAll, depthL]
  | x :: xs => by simp only [toPL, PyData.depthAll, depthL]; rw [toP_depth x, toPL_depth xs]
end
theorem okD_plain {a : D} (h : okD a = true) : plain a = true := (Bool.and_eq_true_iff.mp h).1
theorem okD_depth {a : D} (h : okD a = true) : depth a ≤ 40 := of_decide_eq_true (Bool.and_eq_true_iff.mp h).2
theorem okD_shaped {a : D} (h : okD a = true) : SeqAt.shaped (toP a) = true := by
  show ((toP a).canLay0 && decide ((toP a).depth ≤ 64)) = true
  rw [toP_lay a (okD_plain h), toP_depth]
  exact decide_eq_true (Nat.le_trans (okD_depth h) (by decide))
section
variable {K : PySem.W.Frag} {fa : Fa} {F : Hp} {al : List Addr} {H : Hp}
mutual
theorem Rep.dp (hs : ∀ p o, F p = some o → H p = some o) : ∀ {d : D} {v : V}, Rep K fa F al v d → plain d = true → Dp K H v (toP d)
  | .non, _, h, _ => by cases h; exact .non
  | .bl _, _, h, _ => by cases h; exact .bl _
  | .int _, _, h, _ => by cases h; exact .int _
  | .str _, _, h, _ => by cases h; exact .str _
  | .tup xs, _, h, q => by
    cases h with
    | tup h r => exact .tup (sqT_mono hs h) (RepL.dp hs r (by simpa [plain] using q))
  | .lst xs, _, h, q => by
    cases h with
    | lst h r => exact .lst (.inl (.inl (hs _ _ h))) (RepL.dp hs r (by simpa [plain] using q))
  | .dic _, _, _, h => by simp [plain] at h
  | .cell _, _, _, h => by simp [plain] at h
  | .fn _, _, _, h => by simp [plain] at h
  | .exc _ _, _, _, h => by simp [plain] at h
  | .scr _, _, _, h => by simp [plain] at h
theorem RepL.dp (hs : ∀ p o, F p = some o → H p = some o) : ∀ {ds : List D} {vs : List V}, RepL K fa F al vs ds → plainL ds = true → DpAll K H vs (toPL ds)
  | [], _, h, _ => by cases h; exact .nil
  | x :: xs, _, h, q => by
    simp only [plainL, Bool.and_eq_true] at q
    cases h with
    | cons h r => exact .cons (Rep.dp hs h q.1) (RepL.dp hs r q.2)
end
theorem VP.dp (hs : ∀ p o, F p = some o → H p = some o) {v : V} {d : D} (h : VP K fa F al H v d) (q : plain d = true) : Dp K H v (toP d) := by
  cases h with
  | rep h => exact Rep.dp hs h q
  | lst h r => exact .lst (.inl (.inl h)) (RepL.dp hs r (by simpa [plain] using q))
  | dic h r => simp [plain] at q
end

def opc : Op → Operator
  | .add => .Add
  | .sub => .Sub
  | .mul => .Mult
  | .fdiv => .FloorDiv
  | .mod => .Mod
  | .pow => .Pow
section
variable {X : Cx} {fa : Fa}
/-- a two-place operation, as the evaluator has it -/
def rV (X : Cx) (fa : Fa) (f : D → D → Option D) : R2 := fun x y H Q => ∃ (F : Hp) (al : List Addr) (dx dy d : D), (∀ p o, F p = some o → H p = some o) ∧ VP X.K fa F al H x dx ∧ VP X.K fa F al H y dy ∧ f dx dy = some d ∧ ∀ v H', Res X.K fa F al H v d H' → Q v H'
theorem small_of {i : Int} (h : small i = true) : -(2 ^ 64) < i ∧ i < 2 ^ 64 := by
  unfold small at h
  rw [Bool.and_eq_true] at h
  exact ⟨of_decide_eq_true h.1, of_decide_eq_true h.2⟩
theorem ite_some {α : Type} {c : Prop} [Decidable c] {a b : α} (h : (if c then some a else none) = some b) : c ∧ a = b := by
  by_cases q : c
  · rw [if_pos q] at h; exact ⟨q, Option.some.inj h⟩
  · rw [if_neg q] at h; cases h
theorem toS_app (x y : Tx) : toS x ++ toS y = toS (x ++ y) := by
  show (⟨x.toArray ++ y.toArray⟩ : Str) = ⟨(x ++ y).toArray⟩
  simp
theorem vals_tup {a : Addr} {vs : List V} {ds : List D} {K : PySem.W.Frag} {F : Hp} {al : List Addr} (h : SqT K F a vs) (r : RepL K fa F al vs ds) : Rep K fa F al (.ref a) (.tup ds) := .tup h r
theorem op_bin (o : Op) : OpR X (binaryOp (opc o)) (rV X fa (bin o)) := by
  intro pins s σ H x y v u Q I rx ry h
  obtain ⟨F, al, dx, dy, d, hs, hx, hy, e, q⟩ := h
  unfold bin at e
  split at e
  · cases e; obtain rfl := hx.int; obtain rfl := hy.int
    exact op_add pins s σ H _ _ v u Q I rx ry ⟨_, _, rfl, rfl, q _ _ (.same (.int _) (fun _ z => nomatch z))⟩
  · obtain ⟨c, rfl⟩ := ite_some e; obtain rfl := hx.str; obtain rfl := hy.str
    refine op_add_str pins s σ H _ _ v u Q I rx ry ⟨_, _, rfl, rfl, by rw [toS_len, toS_len]; exact szl c, ?_⟩
    rw [toS_app]
    exact q _ _ (.same (.str _) (fun _ z => nomatch z))
  · obtain ⟨c, rfl⟩ := ite_some e
    obtain ⟨p1, vs1, rfl, h1, r1⟩ := hx.list hs
    obtain ⟨p2, vs2, rfl, h2, r2⟩ := hy.list hs
    exact op_cat pins s σ H _ _ v u Q I rx ry ⟨_, _, _, _, rfl, rfl, h1, h2, by rw [r1.length, r2.length]; exact szl c, fun p hp => q _ _ (.lst hp (r1.append r2))⟩
  · obtain ⟨c, rfl⟩ := ite_some e
    rename_i dx dy
    obtain ⟨p1, vs1, rfl, h1, r1⟩ := hx.tuple hs
    obtain ⟨p2, vs2, rfl, h2, r2⟩ := hy.tuple hs
    refine op_catA pins s σ H _ _ v u Q I rx ry ⟨_, _, _, _, rfl, rfl, h1, h2, by rw [r1.length, r2.length]; exact szl c, fun z => ?_, fun _ z => ?_, fun _ _ p hp => q _ _ (.tup hp (r1.append r2))⟩
    · subst z; cases r1
      cases hy with
      | rep hy => exact q _ _ (.same hy (fun _ z => nomatch z))
    · subst z; cases r2
      rw [List.append_nil] at q
      cases hx with
      | rep hx => exact q _ _ (.same hx (fun _ z => nomatch z))
  · cases e; obtain rfl := hx.int; obtain rfl := hy.int
    exact op_sub pins s σ H _ _ v u Q I rx ry ⟨_, _, rfl, rfl, q _ _ (.same (.int _) (fun _ z => nomatch z))⟩
  · obtain ⟨c, rfl⟩ := ite_some e; obtain rfl := hx.int; obtain rfl := hy.int
    refine op_mul pins s σ H _ _ v u Q I rx ry ⟨_, _, rfl, rfl, ?_, q _ _ (.same (.int _) (fun _ z => nomatch z))⟩
    rcases Bool.or_eq_true_iff.mp c with c | c
    · exact .inl (small_of c)
    · exact .inr (small_of c)
  · obtain ⟨c, rfl⟩ := ite_some e; obtain rfl := hx.int; obtain rfl := hy.int
    rw [Bool.and_eq_true] at c
    exact op_fdivN pins s σ H _ _ v u Q I rx ry ⟨_, _, rfl, rfl, ⟨of_decide_eq_true c.1, of_decide_eq_true c.2⟩, q _ _ (.same (.int _) (fun _ z => nomatch z))⟩
  · rename_i i j
    by_cases c : j = 0
    · rw [if_pos c] at e; cases e
    · rw [if_neg c] at e; cases e; obtain rfl := hx.int; obtain rfl := hy.int
      exact op_modN pins s σ H _ _ v u Q I rx ry ⟨_, _, rfl, rfl, c, q _ _ (.same (.int _) (fun _ z => nomatch z))⟩
  · obtain ⟨c, rfl⟩ := ite_some e; obtain rfl := hx.int; obtain rfl := hy.int
    exact op_pow pins s σ H _ _ v u Q I rx ry ⟨_, _, rfl, rfl, c, q _ _ (.same (.int _) (fun _ z => nomatch z))⟩
  · cases e

def cmc : Cm → CmpOp
  | .eq => .Eq
  | .ne => .NotEq
  | .lt => .Lt
  | .le => .LtE
  | .gt => .Gt
  | .ge => .GtE
  | .isin => .In
  | .notin => .NotIn
/-- a comparison's rule: the answer a bool, the heap as it was -/
def rC (X : Cx) (fa : Fa) (f : D → D → Option Bool) : R2 := fun x y H Q => ∃ (F : Hp) (al : List Addr) (dx dy : D) (k : Bool), (∀ p o, F p = some o → H p = some o) ∧ VP X.K fa F al H x dx ∧ VP X.K fa F al H y dy ∧ f dx dy = some k ∧ Q (.bl k) H
theorem scal_V {K : PySem.W.Frag} {F H : Hp} {al : List Addr} {x y : V} {dx dy : D} (hx : VP K fa F al H x dx) (hy : VP K fa F al H y dy) (h : scal dx dy = true) : L2.scal x y = true ∧ decide (x = y) = eqv dx dy := by
  unfold scal at h
  split at h <;> first | cases h | skip
  all_goals first
    | (obtain rfl := hx.non; obtain rfl := hy.non; exact ⟨rfl, rfl⟩)
    | (obtain rfl := hx.non; obtain rfl := hy.int; exact ⟨rfl, by simp [eqv]⟩)
    | (obtain rfl := hx.int; obtain rfl := hy.non; exact ⟨rfl, by simp [eqv]⟩)
    | (obtain rfl := hx.non; obtain rfl := hy.bl; exact ⟨rfl, by simp [eqv]⟩)
    | (obtain rfl := hx.bl; obtain rfl := hy.non; exact ⟨rfl, by simp [eqv]⟩)
    | (obtain rfl := hx.non; obtain rfl := hy.str; exact ⟨rfl, by simp [eqv]⟩)
    | (obtain rfl := hx.str; obtain rfl := hy.non; exact ⟨rfl, by simp [eqv]⟩)
    | (obtain rfl := hx.int; obtain rfl := hy.int; exact ⟨rfl, by simp [eqv, Bool.beq_eq_decide_eq]⟩)
    | (obtain rfl := hx.bl; obtain rfl := hy.bl; exact ⟨rfl, by simp [eqv, Bool.beq_eq_decide_eq]⟩)
    | (obtain rfl := hx.int; obtain rfl := hy.str; exact ⟨rfl, by simp [eqv]⟩)
    | (obtain rfl := hx.str; obtain rfl := hy.int; exact ⟨rfl, by simp [eqv]⟩)
    | (obtain rfl := hx.bl; obtain rfl := hy.str; exact ⟨rfl, by simp [eqv]⟩)
    | (obtain rfl := hx.str; obtain rfl := hy.bl; exact ⟨rfl, by simp [eqv]⟩)
    | skip
  obtain rfl := hx.str; obtain rfl := hy.str
  refine ⟨rfl, ?_⟩
  rename_i a b
  by_cases e : a = b
  · subst e; simp [eqv]
  · have e' : ¬ (V.str (toS a) = V.str (toS b)) := fun z => e (toS_inj (V.str.inj z))
    rw [decide_eq_false e']
    simp only [eqv]
    exact (beq_eq_false_iff_ne.mpr e).symm
theorem op_same (hu : X.A.units + 64 < cLine) : OpR X (compareOp .Eq) (rC X fa same) := by
  intro pins s σ H x y v u Q I rx ry h
  obtain ⟨F, al, dx, dy, k, hs, hx, hy, e, q⟩ := h
  unfold same at e
  obtain ⟨c, rfl⟩ := ite_some e
  rcases Bool.or_eq_true_iff.mp c with c | c
  · obtain ⟨e1, e2⟩ := scal_V hx hy c
    rw [← e2] at q
    exact op_eq pins s σ H x y v u Q I rx ry ⟨e1, q⟩
  · obtain ⟨c1, c2⟩ := Bool.and_eq_true_iff.mp c
    refine op_eqD hu pins s σ H x y v u Q I rx ry ⟨_, _, hx.dp hs (okD_plain c1), hy.dp hs (okD_plain c2), okD_shaped c1, okD_shaped c2, ?_⟩
    rw [toP_eqv _ _ (okD_plain c1) (okD_plain c2)]
    exact q
theorem op_nsame (hu : X.A.units + 64 < cLine) : OpR X (compareOp .NotEq) (rC X fa fun a b => (same a b).map fun k => !k) := by
  intro pins s σ H x y v u Q I rx ry h
  obtain ⟨F, al, dx, dy, k, hs, hx, hy, e, q⟩ := h
  obtain ⟨k0, e0, rfl⟩ := Option.map_eq_some_iff.mp e
  unfold same at e0
  obtain ⟨c, rfl⟩ := ite_some e0
  rcases Bool.or_eq_true_iff.mp c with c | c
  · obtain ⟨e1, e2⟩ := scal_V hx hy c
    rw [← e2] at q
    exact op_ne pins s σ H x y v u Q I rx ry ⟨e1, q⟩
  · obtain ⟨c1, c2⟩ := Bool.and_eq_true_iff.mp c
    refine op_neD hu pins s σ H x y v u Q I rx ry ⟨_, _, hx.dp hs (okD_plain c1), hy.dp hs (okD_plain c2), okD_shaped c1, okD_shaped c2, ?_⟩
    rw [toP_eqv _ _ (okD_plain c1) (okD_plain c2)]
    exact q
theorem flat_V {K : PySem.W.Frag} {F H : Hp} {al : List Addr} {x : V} {dx : D} (hx : VP K fa F al H x dx) (h : flat dx = true) : flatV x = true := by
  cases dx <;> simp [flat] at h
  · obtain rfl := hx.non; rfl
  · obtain rfl := hx.bl; rfl
  · obtain rfl := hx.int; rfl
  · obtain rfl := hx.str; rfl
theorem flat_eqv {K : PySem.W.Frag} {F H : Hp} {al : List Addr} {x y : V} {dx dy : D} (hx : VP K fa F al H x dx) (hy : VP K fa F al H y dy) (h : flat dx = true) (h2 : flat dy = true) : eqV x y = eqv dx dy := by
  cases dx <;> simp [flat] at h <;> cases dy <;> simp [flat] at h2
  all_goals first
    | (obtain rfl := hx.non; obtain rfl := hy.non; rfl)
    | (obtain rfl := hx.non; obtain rfl := hy.bl; simp [eqV, eqv])
    | (obtain rfl := hx.non; obtain rfl := hy.int; simp [eqV, eqv])
    | (obtain rfl := hx.non; obtain rfl := hy.str; simp [eqV, eqv])
    | (obtain rfl := hx.bl; obtain rfl := hy.non; simp [eqV, eqv])
    | (obtain rfl := hx.bl; obtain rfl := hy.bl; simp [eqV, eqv])
    | (obtain rfl := hx.bl; obtain rfl := hy.int; simp [eqV, eqv])
    | (obtain rfl := hx.bl; obtain rfl := hy.str; simp [eqV, eqv])
    | (obtain rfl := hx.int; obtain rfl := hy.non; simp [eqV, eqv])
    | (obtain rfl := hx.int; obtain rfl := hy.bl; simp [eqV, eqv])
    | (obtain rfl := hx.int; obtain rfl := hy.int; simp [eqV, eqv])
    | (obtain rfl := hx.int; obtain rfl := hy.str; simp [eqV, eqv])
    | (obtain rfl := hx.str; obtain rfl := hy.non; simp [eqV, eqv])
    | (obtain rfl := hx.str; obtain rfl := hy.bl; simp [eqV, eqv])
    | (obtain rfl := hx.str; obtain rfl := hy.int; simp [eqV, eqv])
    | skip
  obtain rfl := hx.str; obtain rfl := hy.str
  rename_i a b
  simp only [eqV, eqv]
  by_cases e : a = b
  · subst e; simp
  · rw [beq_eq_false_iff_ne.mpr e, beq_eq_false_iff_ne.mpr fun z => e (toS_inj z)]
theorem flats_V {K : PySem.W.Frag} {F H : Hp} {al : List Addr} {x : V} {dx : D} (hx : VP K fa F al H x dx) (h : flat dx = true) : ∀ {vs : List V} {ds : List D}, RepL K fa F al vs ds → ds.all flat = true → vs.all flatV = true ∧ inV x vs = ds.any fun z => eqv z dx
  | _, _, .nil, _ => ⟨rfl, rfl⟩
  | _, _, .cons r t, q => by
    rw [List.all_cons, Bool.and_eq_true] at q
    obtain ⟨h1, h2⟩ := flats_V hx h t q.2
    have r' : VP K fa F al H _ _ := .rep r
    refine ⟨by rw [List.all_cons, flat_V r' q.1, h1]; rfl, ?_⟩
    unfold inV at h2 ⊢
    rw [List.any_cons, List.any_cons, h2, flat_eqv r' hx q.1 h]
theorem any_toP {a : D} (ha : plain a = true) : ∀ {ds : List D}, plainL ds = true → (toPL ds).any (fun z => PyData.eqv z (toP a)) = ds.any fun z => eqv z a
  | [], _ => rfl
  | d :: ds, h => by
    simp only [plainL, Bool.and_eq_true] at h
    simp only [toPL, List.any_cons]
    rw [toP_eqv d a h.1 ha, any_toP ha h.2]
theorem inD (neg : Bool) (hu : X.A.units + 65 < cLine) {pins : List (Addr × Obj)} {s : Shared} {σ : St} {H : Hp} {x y : V} {v u : Value} {Q : VK} {F : Hp} {al : List Addr} {a : D} {ds : List D} (tp : Bool) (I : Inv X pins σ H s) (rx : RelV x v) (ry : RelV y u) (hs : ∀ p o, F p = some o → H p = some o)
    (hx : VP X.K fa F al H x a) (hy : VP X.K fa F al H y (if tp then .tup ds else .lst ds)) (h1 : okD a = true) (h2 : okD (if tp then .tup ds else .lst ds) = true) (q : Q (.bl ((ds.any fun z => eqv z a) != neg)) H) :
    wpAny (model X.prog X.w) X.A (compareOp (if neg then .NotIn else .In) v u) (EP X pins σ Q) X.xe s := by
  have hd := hx.dp hs (okD_plain h1)
  have he := hy.dp hs (okD_plain h2)
  obtain ⟨as, r1⟩ := Dp.reads I _ x v hd rx
  obtain ⟨bs, r2⟩ := Dp.reads I _ y u he ry
  have pl : plainL ds = true := by
    have := okD_plain h2
    cases tp <;> simpa [plain] using this
  have dep : PyData.depthAll (toPL ds) ≤ 40 := by
    have := okD_depth h2
    rw [toPL_depth]
    cases tp <;> simp [depth] at this <;> omega
  have room : X.A.units + 1 + min (PyData.depthAll (toPL ds)) (toP a).depth < cLine := by
    have : min (PyData.depthAll (toPL ds)) (toP a).depth ≤ 40 := Nat.le_trans (Nat.min_le_left _ _) dep
    omega
  rw [← any_toP (okD_plain h1) pl] at q
  have fin : ∀ k : Bool, Q (.bl k) H → EP X pins σ Q (.bool k) s := fun k q => ⟨.bl k, H, I, rfl, q⟩
  cases tp with
  | true =>
    have r2' : Reads s.heap u (.tuple (toPL ds)) bs := r2
    cases neg with
    | true => exact SeqAt.notIn_tuple_reads r2' r1 (toPL_lay ds pl) (toP_lay a (okD_plain h1)) room (fin _ (by simpa using q))
    | false => exact SeqAt.in_tuple_reads r2' r1 (toPL_lay ds pl) (toP_lay a (okD_plain h1)) room (fin _ (by simpa using q))
  | false =>
    have r2' : Reads s.heap u (.list (toPL ds)) bs := r2
    cases neg with
    | true => exact SeqAt.notIn_list_reads r2' r1 (toPL_lay ds pl) (toP_lay a (okD_plain h1)) room (fin _ (by simpa using q))
    | false => exact SeqAt.in_list_reads r2' r1 (toPL_lay ds pl) (toP_lay a (okD_plain h1)) room (fin _ (by simpa using q))
theorem ne_false (b : Bool) : (b != false) = b := by cases b <;> rfl
theorem ne_true (b : Bool) : (b != true) = !b := by cases b <;> rfl
theorem inF (neg : Bool) {pins : List (Addr × Obj)} {s : Shared} {σ : St} {H : Hp} {x : V} {v u : Value} {Q : VK} {F : Hp} {al : List Addr} {a : D} {ds : List D} {vs : List V} {p : Addr} (I : Inv X pins σ H s) (rx : RelV x v) (ry : RelV (.ref p) u)
    (hx : VP X.K fa F al H x a) (hy : SqL X.K H p vs ∨ SqT X.K H p vs) (r : RepL X.K fa F al vs ds) (h1 : (flat a && ds.all flat) = true) (q : Q (.bl ((ds.any fun z => eqv z a) != neg)) H) :
    wpAny (model X.prog X.w) X.A (compareOp (if neg then .NotIn else .In) v u) (EP X pins σ Q) X.xe s := by
  obtain ⟨f1, f2⟩ := Bool.and_eq_true_iff.mp h1
  obtain ⟨g1, g2⟩ := flats_V hx f1 r f2
  rw [← g2] at q
  cases neg with
  | true => rw [ne_true] at q; exact op_notIn_seq pins s σ H x _ v u Q I rx ry ⟨p, vs, rfl, hy, flat_V hx f1, g1, q⟩
  | false => rw [ne_false] at q; exact op_in_seq pins s σ H x _ v u Q I rx ry ⟨p, vs, rfl, hy, flat_V hx f1, g1, q⟩
/-- in, not in (dicts by their own rule) -/
def isInS (a : D) : D → Option Bool
  | .dic _ => none
  | b => isIn a b
theorem op_isIn (neg : Bool) (hu : X.A.units + 65 < cLine) : OpR X (compareOp (if neg then .NotIn else .In)) (rC X fa fun a b => (isInS a b).map fun k => k != neg) := by
  intro pins s σ H x y v u Q I rx ry h
  obtain ⟨F, al, dx, dy, k, hs, hx, hy, e, q⟩ := h
  obtain ⟨k0, e0, rfl⟩ := Option.map_eq_some_iff.mp e
  cases dy with
  | lst xs =>
    obtain ⟨c, rfl⟩ := ite_some (show (if (flat dx && xs.all flat) || (okD dx && okD (.lst xs)) then some (xs.any fun z => eqv z dx) else none) = some k0 from e0)
    rcases Bool.or_eq_true_iff.mp c with c | c
    · obtain ⟨p, vs, rfl, h1, r⟩ := hy.list hs
      exact inF neg I rx ry hx (.inl (.inl (.inl h1))) r c q
    · obtain ⟨c1, c2⟩ := Bool.and_eq_true_iff.mp c
      exact inD neg hu false I rx ry hs hx hy c1 c2 q
  | tup xs =>
    obtain ⟨c, rfl⟩ := ite_some (show (if (flat dx && xs.all flat) || (okD dx && okD (.tup xs)) then some (xs.any fun z => eqv z dx) else none) = some k0 from e0)
    rcases Bool.or_eq_true_iff.mp c with c | c
    · obtain ⟨p, vs, rfl, h1, r⟩ := hy.tuple hs
      exact inF neg I rx ry hx (.inr h1) r c q
    · obtain ⟨c1, c2⟩ := Bool.and_eq_true_iff.mp c
      exact inD neg hu true I rx ry hs hx hy c1 c2 q
  | str z =>
    obtain rfl := hy.str
    cases dx with
    | str w =>
      match w, e0, hx with
      | [], e0, _ => cases e0
      | [ch], e0, hx =>
        cases e0
        obtain rfl := hx.str
        have ez : (toS z).cps.toList = z := toS_list z
        cases neg with
        | true => rw [ne_true, ← ez] at q; exact op_notIn_sign pins s σ H _ _ v u Q I rx ry ⟨ch, toS z, rfl, rfl, q⟩
        | false => rw [ne_false, ← ez] at q; exact op_in_sign pins s σ H _ _ v u Q I rx ry ⟨ch, toS z, rfl, rfl, q⟩
      | _ :: _ :: _, e0, _ => cases e0
    | _ => cases e0
  | _ => cases e0
theorem not_lt (i j : Int) : (!decide (i < j)) = decide (j ≤ i) := by
  rw [Bool.eq_iff_iff]
  simp
theorem op_less : OpR X (compareOp .Lt) (rC X fa less) := by
  intro pins s σ H x y v u Q I rx ry h
  obtain ⟨F, al, dx, dy, k, hs, hx, hy, e, q⟩ := h
  unfold less at e
  split at e
  · cases e; obtain rfl := hx.int; obtain rfl := hy.int
    exact op_lt pins s σ H _ _ v u Q I rx ry ⟨_, _, rfl, rfl, q⟩
  · cases e; obtain rfl := hx.str; obtain rfl := hy.str
    exact op_lt_str pins s σ H _ _ v u Q I rx ry ⟨_, _, rfl, rfl, by rw [toS_list, toS_list]; exact q⟩
  · cases e
theorem op_more : OpR X (compareOp .Gt) (rC X fa fun a b => less b a) := by
  intro pins s σ H x y v u Q I rx ry h
  obtain ⟨F, al, dx, dy, k, hs, hx, hy, e, q⟩ := h
  have e : less dy dx = some k := e
  unfold less at e
  split at e
  · cases e; obtain rfl := hx.int; obtain rfl := hy.int
    exact op_gt pins s σ H _ _ v u Q I rx ry ⟨_, _, rfl, rfl, q⟩
  · cases e; obtain rfl := hx.str; obtain rfl := hy.str
    exact op_gt_str pins s σ H _ _ v u Q I rx ry ⟨_, _, rfl, rfl, by rw [toS_list, toS_list]; exact q⟩
  · cases e
theorem op_noless : OpR X (compareOp .GtE) (rC X fa fun a b => (less a b).map fun k => !k) := by
  intro pins s σ H x y v u Q I rx ry h
  obtain ⟨F, al, dx, dy, k, hs, hx, hy, e, q⟩ := h
  obtain ⟨k0, e0, rfl⟩ := Option.map_eq_some_iff.mp e
  unfold less at e0
  split at e0
  · cases e0; obtain rfl := hx.int; obtain rfl := hy.int
    rw [not_lt] at q
    exact op_ge pins s σ H _ _ v u Q I rx ry ⟨_, _, rfl, rfl, q⟩
  · cases e0; obtain rfl := hx.str; obtain rfl := hy.str
    exact op_ge_str pins s σ H _ _ v u Q I rx ry ⟨_, _, rfl, rfl, by rw [toS_list, toS_list]; exact q⟩
  · cases e0
theorem op_nomore : OpR X (compareOp .LtE) (rC X fa fun a b => (less b a).map fun k => !k) := by
  intro pins s σ H x y v u Q I rx ry h
  obtain ⟨F, al, dx, dy, k, hs, hx, hy, e, q⟩ := h
  obtain ⟨k0, e0, rfl⟩ := Option.map_eq_some_iff.mp e
  unfold less at e0
  split at e0
  · cases e0; obtain rfl := hx.int; obtain rfl := hy.int
    rw [not_lt] at q
    exact op_le pins s σ H _ _ v u Q I rx ry ⟨_, _, rfl, rfl, q⟩
  · cases e0; obtain rfl := hx.str; obtain rfl := hy.str
    exact op_le_str pins s σ H _ _ v u Q I rx ry ⟨_, _, rfl, rfl, by rw [toS_list, toS_list]; exact q⟩
  · cases e0
theorem op_cmp (c : Cm) (hu : X.A.units + 65 < cLine) : OpR X (compareOp (cmc c)) (rC X fa fun a b => match c with
    | .isin => isInS a b
    | .notin => (isInS a b).map fun k => !k
    | c => cmp c a b) := by
  have hu' : X.A.units + 64 < cLine := by omega
  cases c with
  | eq => exact op_same hu'
  | ne => exact op_nsame hu'
  | lt => exact op_less
  | le => exact op_nomore
  | gt => exact op_more
  | ge => exact op_noless
  | isin =>
    intro pins s σ H x y v u Q I rx ry ⟨F, al, dx, dy, k, hs, hx, hy, e, q⟩
    refine op_isIn (fa := fa) false hu pins s σ H x y v u Q I rx ry ⟨F, al, dx, dy, k, hs, hx, hy, ?_, q⟩
    have e : isInS dx dy = some k := e
    show (isInS dx dy).map _ = _
    rw [e]
    exact congrArg some (ne_false k)
  | notin =>
    intro pins s σ H x y v u Q I rx ry ⟨F, al, dx, dy, k, hs, hx, hy, e, q⟩
    refine op_isIn (fa := fa) true hu pins s σ H x y v u Q I rx ry ⟨F, al, dx, dy, k, hs, hx, hy, ?_, q⟩
    obtain ⟨k0, e0, rfl⟩ := Option.map_eq_some_iff.mp e
    show (isInS dx dy).map _ = _
    rw [e0]
    exact congrArg some (ne_true k0)
/-- is, is not -/
def kcV : Kc → V
  | .non => .non
  | .tru => .bl true
  | .fls => .bl false
theorem op_isk (n : Bool) : OpR X (compareOp (if n then .IsNot else .Is)) (fun x y H Q => ∃ (F : Hp) (al : List Addr) (k : Kc) (dx : D) (b : Bool), VP X.K fa F al H x dx ∧ y = kcV k ∧ isk k dx = some b ∧ Q (.bl (b != n)) H) := by
  intro pins s σ H x y v u Q I rx ry h
  obtain ⟨F, al, k, dx, b, hx, rfl, e, q⟩ := h
  unfold isk at e
  split at e
  · cases e
    have ex : decide (x = V.non) = isNone dx := by
      cases hx with
      | rep hx => cases hx <;> simp [isNone]
      | lst _ _ => simp [isNone]
      | dic _ _ => simp [isNone]
    rw [← ex] at q
    cases n with
    | true => rw [ne_true] at q; exact op_notN pins s σ H _ _ v u Q I rx ry ⟨rfl, q⟩
    | false => rw [ne_false] at q; exact op_isN pins s σ H _ _ v u Q I rx ry ⟨rfl, q⟩
  · cases e; obtain rfl := hx.bl
    have eb : decide (b = true) = b := by cases b <;> rfl
    rw [← eb] at q
    cases n with
    | true => rw [ne_true] at q; exact op_notBl pins s σ H _ _ v u Q I rx ry ⟨_, _, rfl, rfl, q⟩
    | false => rw [ne_false] at q; exact op_isBl pins s σ H _ _ v u Q I rx ry ⟨_, _, rfl, rfl, q⟩
  · cases e; obtain rfl := hx.bl
    rename_i b
    have eb : decide (b = false) = !b := by cases b <;> rfl
    rw [← eb] at q
    cases n with
    | true => rw [ne_true] at q; exact op_notBl pins s σ H _ _ v u Q I rx ry ⟨_, _, rfl, rfl, q⟩
    | false => rw [ne_false] at q; exact op_isBl pins s σ H _ _ v u Q I rx ry ⟨_, _, rfl, rfl, q⟩
  · cases e

theorem ixN_eq (n : Nat) (i : Int) : Lb.ixN n i = L2.ixN n i := rfl
theorem atI_rep {K : PySem.W.Frag} {F : Hp} {al : List Addr} {vs : List V} {ds : List D} {i : Int} {d : D} (r : RepL K fa F al vs ds) (h : Lb.atI ds i = some d) : ∃ v, L2.atI vs i = some v ∧ Rep K fa F al v d := by
  unfold Lb.atI at h
  obtain ⟨j, h1, h2⟩ := Option.bind_eq_some_iff.mp h
  obtain ⟨v, h3, h4⟩ := r.get h2
  refine ⟨v, ?_, h4⟩
  unfold L2.atI
  rw [r.length, ← ixN_eq, h1]
  exact h3
/-- an item -/
def rItem (X : Cx) (fa : Fa) : R2 := fun x y H Q => ∃ (F : Hp) (al : List Addr) (dx dy d : D), (∀ p o, F p = some o → H p = some o) ∧ VP X.K fa F al H x dx ∧ VP X.K fa F al H y dy ∧ (∀ ks, dx ≠ .dic ks) ∧ item dx dy = some d ∧ ∀ v, Rep X.K fa F al v d → Q v H
theorem ix_item : IxR X (rItem X fa) := by
  intro value sl pins s σ H x y v u Q I rx ry h hsub
  obtain ⟨F, al, dx, dy, d, hs, hx, hy, nd, e, q⟩ := h
  unfold item at e
  split at e
  · obtain ⟨p, vs, rfl, h1, r⟩ := hx.list hs
    obtain rfl := hy.int
    obtain ⟨z, h3, h4⟩ := atI_rep r e
    exact ix_list value sl pins s σ H _ _ v u Q I rx ry ⟨_, _, _, _, rfl, rfl, .inl (.inl h1), h3, q _ h4⟩ hsub
  · obtain ⟨p, vs, rfl, h1, r⟩ := hx.tuple hs
    obtain rfl := hy.int
    obtain ⟨z, h3, h4⟩ := atI_rep r e
    exact ix_tup value sl pins s σ H _ _ v u Q I rx ry ⟨_, _, _, _, rfl, rfl, h1, h3, q _ h4⟩ hsub
  · rename_i z i
    by_cases c : z.length ≤ sz
    · rw [if_pos c] at e
      obtain ⟨ch, h1, rfl⟩ := Option.map_eq_some_iff.mp e
      obtain rfl := hx.str
      obtain rfl := hy.int
      refine ix_str value sl pins s σ H _ _ v u Q I rx ry ⟨_, _, ch, rfl, rfl, by rw [toS_len]; exact szl c, ?_, q _ (.str [ch])⟩ hsub
      rw [toS_list]
      exact h1
    · rw [if_neg c] at e; cases e
  · exact absurd rfl (nd _)
  · obtain ⟨n, h1, rfl⟩ := Option.map_eq_some_iff.mp e
    obtain ⟨p, rfl, hq⟩ := hx.script hs
    obtain rfl := hy.int
    rename_i ns i
    have h3 : L2.atI (ns.map V.int) i = some (.int n) := by
      unfold Lb.atI at h1
      obtain ⟨j, g1, g2⟩ := Option.bind_eq_some_iff.mp h1
      unfold L2.atI
      rw [List.length_map, ← ixN_eq, g1]
      show (ns.map V.int)[j]? = _
      rw [List.getElem?_map, g2]
      rfl
    exact ix_list value sl pins s σ H _ _ v u Q I rx ry ⟨_, _, _, _, rfl, rfl, hq, h3, q _ (.int n)⟩ hsub
  · cases e
theorem sIx_eq (n d : Nat) (i : Option Int) : Lb.sIx n d i = HT.sIx n d i := by
  cases i with
  | none => rfl
  | some i =>
    show (if 0 ≤ i then min i.toNat n else (i + n).toNat) = if i < 0 then (i + (n : Int)).toNat else min i.toNat n
    by_cases c : 0 ≤ i
    · rw [if_pos c, if_neg (Int.not_lt.mpr c)]
    · rw [if_neg c, if_pos (Int.not_le.mp c)]
theorem cut_len {α : Type} (xs : List α) (lo hi : Option Int) : (cut xs lo hi).length ≤ xs.length := by
  unfold cut
  rw [List.length_take, List.length_drop]
  omega
theorem cut_rep {K : PySem.W.Frag} {F : Hp} {al : List Addr} {vs : List V} {ds : List D} (r : RepL K fa F al vs ds) (lo hi : Option Int) : RepL K fa F al (cutV vs lo hi) (cut ds lo hi) := by
  unfold cut cutV
  rw [r.length, ← sIx_eq, ← sIx_eq]
  exact (r.drop _).take _
theorem cut_whole {α : Type} {xs : List α} {lo hi : Option Int} (h1 : Lb.sIx xs.length 0 lo = 0) (h2 : Lb.sIx xs.length xs.length hi = xs.length) : cut xs lo hi = xs := by
  unfold cut
  rw [h1, h2]
  simp
def rCut (X : Cx) (fa : Fa) : V → Option Int → Option Int → Hp → VK → Prop := fun x lo hi H Q => ∃ (F : Hp) (al : List Addr) (dx d : D), (∀ p o, F p = some o → H p = some o) ∧ VP X.K fa F al H x dx ∧ slice lo hi dx = some d ∧ ∀ v H', Res X.K fa F al H v d H' → Q v H'
theorem sl_cut : SlR X (rCut X fa) := by
  intro pins s σ H x v vl vu lo hi sl Q I rx hsl pl pu h
  obtain ⟨F, al, dx, d, hs, hx, e, q⟩ := h
  unfold slice at e
  split at e
  · cases e
    obtain ⟨p, vs, rfl, h1, r⟩ := hx.list hs
    exact sl_list pins s σ H _ v vl vu lo hi sl Q I rx hsl pl pu ⟨_, _, rfl, .inl (.inl h1), fun p hp => q _ _ (.lst hp (cut_rep r lo hi))⟩
  · cases e
    rename_i xs
    obtain ⟨p, vs, rfl, h1, r⟩ := hx.tuple hs
    refine sl_tupA pins s σ H _ v vl vu lo hi sl Q I rx hsl pl pu ⟨_, _, rfl, h1, fun w => ?_, fun w p hp => q _ _ (.tup hp (cut_rep r lo hi))⟩
    rw [r.length, ← sIx_eq, ← sIx_eq] at w
    rw [cut_whole w.1 w.2] at q
    cases hx with
    | rep hx => exact q _ _ (.same hx (fun _ z => nomatch z))
  · obtain ⟨c, rfl⟩ := ite_some e
    obtain rfl := hx.str
    rename_i z
    refine sl_str pins s σ H _ v vl vu lo hi sl Q I rx hsl pl pu ⟨_, rfl, by rw [toS_len]; exact szl c, ?_⟩
    have ec : cutS (toS z) lo hi = toS (cut z lo hi) := by
      unfold cutS cut
      rw [toS_list, toS_len, ← sIx_eq, ← sIx_eq]
      rfl
    rw [ec]
    exact q _ _ (.same (.str _) (fun _ z => nomatch z))
  · cases e
inductive VPL (K : PySem.W.Frag) (fa : Fa) (F : Hp) (al : List Addr) (H : Hp) : List V → List D → Prop
  | nil : VPL K fa F al H [] []
  | cons {v : V} {d : D} {vs : List V} {ds : List D} : VP K fa F al H v d → VPL K fa F al H vs ds → VPL K fa F al H (v :: vs) (d :: ds)
def bltVal : B → Value
  | .len => .builtin "len"
  | .tup => .type "tuple"
  | .lst => .type "list"
  | .sorted => .builtin "sorted"
  | .all => .builtin "all"
  | .any => .builtin "any"
  | .sum => .builtin "sum"
  | .min1 => .builtin "min"
  | .max1 => .builtin "max"
  | .min2 => .builtin "min"
  | .max2 => .builtin "max"
  | .abs => .builtin "abs"
  | .int => .type "int"
  | .str => .type "str"
  | .repr => .builtin "repr"
/-- the built-ins that have their rule here -/
def bltHas : B → Bool
  | .len => true
  | .tup => true
  | .lst => true
  | .all => true
  | .any => true
  | .sum => true
  | .min2 => true
  | .max2 => true
  | .abs => true
  | .int => true
  | _ => false
def rBlt (X : Cx) (fa : Fa) (f : List D → Option D) : List V → Hp → VK → Prop := fun vs H Q => ∃ (F : Hp) (al : List Addr) (ds : List D) (d : D), (∀ p o, F p = some o → H p = some o) ∧ VPL X.K fa F al H vs ds ∧ f ds = some d ∧ ∀ v H', Res X.K fa F al H v d H' → Q v H'
theorem VPL.one {K : PySem.W.Frag} {F H : Hp} {al : List Addr} {vs : List V} {d : D} (h : VPL K fa F al H vs [d]) : ∃ v, vs = [v] ∧ VP K fa F al H v d := by
  cases h with
  | cons h t => cases t; exact ⟨_, rfl, h⟩
theorem VPL.two {K : PySem.W.Frag} {F H : Hp} {al : List Addr} {vs : List V} {d e : D} (h : VPL K fa F al H vs [d, e]) : ∃ v w, vs = [v, w] ∧ VP K fa F al H v d ∧ VP K fa F al H w e := by
  cases h with
  | cons h t => cases t with
    | cons h2 t => cases t; exact ⟨_, _, rfl, h, h2⟩
theorem boolsD_rep {K : PySem.W.Frag} {F : Hp} {al : List Addr} : ∀ {vs : List V} {ds : List D} {bs : List Bool}, RepL K fa F al vs ds → boolsD ds = some bs → vs = bs.map V.bl
  | _, _, _, .nil, h => by cases h; rfl
  | _, _, _, .cons (d := d) r t, h => by
    cases d with
    | bl b =>
      obtain ⟨bs, h1, rfl⟩ := Option.map_eq_some_iff.mp (show (boolsD _).map (b :: ·) = some _ from h)
      cases r
      rw [boolsD_rep t h1]
      rfl
    | _ => cases h
theorem intsD_rep {K : PySem.W.Frag} {F : Hp} {al : List Addr} : ∀ {vs : List V} {ds : List D} {bs : List Int}, RepL K fa F al vs ds → intsD ds = some bs → vs = bs.map V.int
  | _, _, _, .nil, h => by cases h; rfl
  | _, _, _, .cons (d := d) r t, h => by
    cases d with
    | int b =>
      obtain ⟨bs, h1, rfl⟩ := Option.map_eq_some_iff.mp (show (intsD _).map (b :: ·) = some _ from h)
      cases r
      rw [intsD_rep t h1]
      rfl
    | _ => cases h
theorem textsD_rep {K : PySem.W.Frag} {F : Hp} {al : List Addr} : ∀ {vs : List V} {ds : List D} {bs : List Tx}, RepL K fa F al vs ds → textsD ds = some bs → vs = (bs.map toS).map V.str
  | _, _, _, .nil, h => by cases h; rfl
  | _, _, _, .cons (d := d) r t, h => by
    cases d with
    | str b =>
      obtain ⟨bs, h1, rfl⟩ := Option.map_eq_some_iff.mp (show (textsD _).map (b :: ·) = some _ from h)
      cases r
      rw [textsD_rep t h1]
      rfl
    | _ => cases h
theorem RepK.length {K : PySem.W.Frag} {F : Hp} {al : List Addr} : ∀ {vs : List (Key × V)} {ds : List (Tx × D)}, RepK K fa F al vs ds → vs.length = ds.length
  | _, _, .nil => rfl
  | _, _, .cons _ r => congrArg (· + 1) (RepK.length r)
theorem sc {X : Cx} {F H : Hp} {al : List Addr} {v : V} {d : D} {Q : VK} (q : ∀ v H', Res X.K fa F al H v d H' → Q v H') (r : Rep X.K fa F al v d) (n : ∀ xs, d ≠ .lst xs := by exact (fun _ z => nomatch z)) : Q v H := q _ _ (.same r n)
theorem call_blt (b : B) (hb : bltHas b = true) (hc : X.calm = true) : CallR X (bltVal b) (rBlt X fa (blt b)) := by
  intro pins s σ H vs us Q I rv h
  obtain ⟨F, al, ds, d, hs, hv, e, q⟩ := h
  cases b <;> simp only [bltHas] at hb <;> first | cases hb | skip
  · -- len
    have e : bLen ds = some d := e
    unfold bLen at e
    split at e
    · obtain ⟨c, rfl⟩ := ite_some e
      obtain ⟨v, rfl, h1⟩ := hv.one
      obtain rfl := h1.str
      exact call_len pins s σ H _ us Q I rv ⟨_, _, rfl, (show _ ∧ _ from ⟨by rw [toS_len]; exact szl c, (toS_len _).symm⟩), sc q (.int _)⟩
    · cases e
      obtain ⟨v, rfl, h1⟩ := hv.one
      obtain ⟨p, ws, rfl, h2, r⟩ := h1.list hs
      exact call_len pins s σ H _ us Q I rv ⟨_, _, rfl, .inl ⟨_, .inl (.inl h2), r.length.symm⟩, sc q (.int _)⟩
    · cases e
      obtain ⟨v, rfl, h1⟩ := hv.one
      obtain ⟨p, ws, rfl, h2, r⟩ := h1.tuple hs
      exact call_len pins s σ H _ us Q I rv ⟨_, _, rfl, .inr ⟨_, h2, r.length.symm⟩, sc q (.int _)⟩
    · cases e
      obtain ⟨v, rfl, h1⟩ := hv.one
      obtain ⟨p, ws, rfl, h2, r⟩ := h1.dict hs
      refine call_lenD pins s σ H _ us Q I rv ⟨_, _, rfl, h2, ?_⟩
      rw [r.length]
      exact sc q (.int _)
    · cases e
      obtain ⟨v, rfl, h1⟩ := hv.one
      obtain ⟨p, rfl, h2⟩ := h1.script hs
      exact call_len pins s σ H _ us Q I rv ⟨_, _, rfl, .inl ⟨_, h2, (List.length_map _).symm⟩, sc q (.int _)⟩
    · cases e
  · -- tuple
    have e : bTup ds = some d := e
    unfold bTup at e
    split at e
    · cases e
      obtain ⟨v, rfl, h1⟩ := hv.one
      obtain ⟨p, ws, rfl, h2, r⟩ := h1.list hs
      exact call_tuple_of pins s σ H _ us Q I rv ⟨_, _, rfl, .inl ⟨.inl (.inl h2), fun l hl => q _ _ (.tup hl r)⟩⟩
    · cases e
      obtain ⟨v, rfl, h1⟩ := hv.one
      obtain ⟨p, ws, rfl, h2, r⟩ := h1.tuple hs
      cases h1 with
      | rep h1 => exact call_tuple_of pins s σ H _ us Q I rv ⟨_, _, rfl, .inr ⟨h2, sc q h1⟩⟩
    · cases e
  · -- list
    have e : bLst ds = some d := e
    unfold bLst at e
    split at e
    · cases e
      obtain ⟨v, rfl, h1⟩ := hv.one
      obtain ⟨p, ws, rfl, h2, r⟩ := h1.list hs
      exact call_list_of pins s σ H _ us Q I rv ⟨_, _, rfl, .inl (.inl (.inl h2)), fun l hl => q _ _ (.lst hl r)⟩
    · cases e
      obtain ⟨v, rfl, h1⟩ := hv.one
      obtain ⟨p, ws, rfl, h2, r⟩ := h1.tuple hs
      exact call_list_of pins s σ H _ us Q I rv ⟨_, _, rfl, .inr h2, fun l hl => q _ _ (.lst hl r)⟩
    · cases e
  · -- all
    have e : bAll ds = some d := e
    unfold bAll at e
    split at e
    · obtain ⟨bs, h0, rfl⟩ := Option.map_eq_some_iff.mp e
      obtain ⟨v, rfl, h1⟩ := hv.one
      obtain ⟨p, ws, rfl, h2, r⟩ := h1.list hs
      obtain rfl := boolsD_rep r h0
      exact cr_all hc pins s σ H _ us Q I rv ⟨_, _, rfl, .inl (.inl h2), sc q (.bl _)⟩
    · cases e
  · -- any
    have e : bAny ds = some d := e
    unfold bAny at e
    split at e
    · obtain ⟨bs, h0, rfl⟩ := Option.map_eq_some_iff.mp e
      obtain ⟨v, rfl, h1⟩ := hv.one
      obtain ⟨p, ws, rfl, h2, r⟩ := h1.list hs
      obtain rfl := boolsD_rep r h0
      exact cr_any hc pins s σ H _ us Q I rv ⟨_, _, rfl, .inl (.inl h2), sc q (.bl _)⟩
    · cases e
  · -- sum
    have e : bSum ds = some d := e
    unfold bSum at e
    split at e
    · obtain ⟨bs, h0, rfl⟩ := Option.map_eq_some_iff.mp e
      obtain ⟨v, rfl, h1⟩ := hv.one
      obtain ⟨p, ws, rfl, h2, r⟩ := h1.list hs
      obtain rfl := intsD_rep r h0
      exact cr_sum hc pins s σ H _ us Q I rv ⟨_, _, rfl, .inl (.inl h2), sc q (.int _)⟩
    · cases e
  · -- min
    have e : bMin2 ds = some d := e
    unfold bMin2 at e
    split at e
    · cases e
      obtain ⟨v, w, rfl, h1, h2⟩ := hv.two
      obtain rfl := h1.int
      obtain rfl := h2.int
      exact call_min2 hc pins s σ H _ us Q I rv ⟨_, _, rfl, sc q (.int _)⟩
    · cases e
  · -- max
    have e : bMax2 ds = some d := e
    unfold bMax2 at e
    split at e
    · cases e
      obtain ⟨v, w, rfl, h1, h2⟩ := hv.two
      obtain rfl := h1.int
      obtain rfl := h2.int
      exact call_max2 hc pins s σ H _ us Q I rv ⟨_, _, rfl, sc q (.int _)⟩
    · cases e
  · -- abs
    have e : bAbs ds = some d := e
    unfold bAbs at e
    split at e
    · cases e
      obtain ⟨v, rfl, h1⟩ := hv.one
      obtain rfl := h1.int
      exact call_abs pins s σ H _ us Q I rv ⟨_, rfl, sc q (.int _)⟩
    · cases e
  · -- int
    have e : bInt ds = some d := e
    unfold bInt at e
    split at e
    · cases e
      obtain ⟨v, rfl, h1⟩ := hv.one
      obtain rfl := h1.int
      exact call_int1 pins s σ H _ us Q I rv (.inl ⟨_, rfl, sc q (.int _)⟩)
    · cases e
      obtain ⟨v, rfl, h1⟩ := hv.one
      obtain rfl := h1.bl
      exact call_int1 pins s σ H _ us Q I rv (.inr ⟨_, rfl, sc q (.int _)⟩)
    · cases e
/-- isinstance -/
def tyS : Ty → String
  | .str => "str"
  | .int => "int"
  | .bool => "bool"
  | .tup => "tuple"
  | .lst => "list"
  | .dic => "dict"
theorem tyX {K : PySem.W.Frag} {F H : Hp} {al : List Addr} {x : V} {d : D} {t : Ty} {b : Bool} (hs : ∀ p o, F p = some o → H p = some o) (hx : VP K fa F al H x d) (e : isTy d t = some b) :
    ∃ u, TyX K H x u ∧ PySem.W.kitOne K u (.type (tyS t)) = some b := by
  cases d with
  | non => obtain rfl := hx.non; exact ⟨_, .base .non, by cases t <;> (cases e; exact kit_ty (by decide +kernel))⟩
  | bl b => obtain rfl := hx.bl; exact ⟨_, .base (.bl _), by cases t <;> (cases e; exact kit_ty (by decide +kernel))⟩
  | int i => obtain rfl := hx.int; exact ⟨_, .base (.int _), by cases t <;> (cases e; exact kit_ty (by decide +kernel))⟩
  | str i => obtain rfl := hx.str; exact ⟨_, .base (.str _), by cases t <;> (cases e; exact kit_ty (by decide +kernel))⟩
  | lst xs =>
    obtain ⟨p, ws, rfl, h2, r⟩ := hx.list hs
    exact ⟨_, .base (.lst h2), by cases t <;> (cases e; exact kit_ty (by decide +kernel))⟩
  | dic xs =>
    obtain ⟨p, ws, rfl, h2, r⟩ := hx.dict hs
    exact ⟨_, .base (.dK h2), by cases t <;> (cases e; exact kit_ty (by decide +kernel))⟩
  | tup xs =>
    obtain ⟨p, ws, rfl, h2, r⟩ := hx.tuple hs
    have ty : TyX K H (.ref p) (.type "tuple") := by
      rcases h2 with (h2 | ⟨o, h2⟩) | ⟨o, its, n, h2, h3, _⟩
      · exact .base (.tup h2)
      · exact .fTuple h2
      · exact .kTuple h2 h3
    exact ⟨_, ty, by cases t <;> (cases e; exact kit_ty (by decide +kernel))⟩
  | cell a => cases t <;> cases e
  | fn a => cases t <;> cases e
  | exc a w => cases t <;> cases e
  | scr a => cases t <;> cases e
theorem call_isTy (t : Ty) : CallR X (.builtin "isinstance") (fun vs H Q => ∃ (F : Hp) (al : List Addr) (v : V) (d : D) (b : Bool), vs = [v, .ty (tyS t)] ∧ (∀ p o, F p = some o → H p = some o) ∧ VP X.K fa F al H v d ∧ isTy d t = some b ∧ Q (.bl b) H) := by
  intro pins s σ H vs us Q I rv h
  obtain ⟨F, al, v, d, b, rfl, hs, hx, e, q⟩ := h
  obtain ⟨u, h1, h2⟩ := tyX hs hx e
  exact call_isi pins s σ H _ us Q I rv ⟨_, _, _, _, _, rfl, .ty _, h1, h2, q⟩
theorem toS_tl (x : Tx) : TL.tl (toS x) = x := toS_list x
theorem spl_split (c : Nat) : ∀ (x acc : Tx), TL.spl [c] 0 acc x = match splitT c x with
    | y :: ys => (acc ++ y) :: ys
    | [] => [acc]
  | [], acc => by simp [splitT, TL.spl]
  | a :: r, acc => by
    by_cases h : a = c
    · subst h
      have hp : TL.pre [a] (a :: r) = true := by simp [TL.pre]
      rw [TL.spl_hit hp]
      have ih := spl_split a r []
      have hn : splitT a r ≠ [] := by
        cases r with
        | nil => simp [splitT]
        | cons b r =>
          simp only [splitT]
          split
          · simp
          · split <;> simp
      simp only [splitT, if_true, List.append_nil]
      rw [show ([a] : List Nat).length - 1 = 0 from rfl, ih]
      cases e : splitT a r with
      | nil => exact absurd e hn
      | cons y ys => simp
    · have hp : TL.pre [c] (a :: r) = false := by simp [TL.pre, h]
      rw [TL.spl_miss hp, spl_split c r (acc ++ [a])]
      simp only [splitT, if_neg h]
      cases e : splitT c r with
      | nil => simp
      | cons y ys => simp
theorem splitT_ne (c : Nat) (x : Tx) : splitT c x ≠ [] := by
  cases x with
  | nil => simp [splitT]
  | cons b r =>
    simp only [splitT]
    split
    · simp
    · split <;> simp
theorem split_text (c : Nat) (hc : c < 256) (x : Tx) : Txt.split (toS x) (toS [c]) = (splitT c x).map toS := by
  have hy : TL.tl (toS [c]) ≠ [] := by simp [TL.tl, toS]
  have hk : ¬ Builtin.Str.strKind (toS x) < Builtin.Str.strKind (toS [c]) := TL.kind_ok (by simp [toS, hc])
  have h := TL.split_spl (toS x) (toS [c]) hy hk
  rw [toS_tl, toS_tl, spl_split] at h
  apply TL.map_tl_inj
  rw [h, List.map_map]
  have e : (TL.tl ∘ toS) = id := by funext z; simp [toS]
  rw [e, List.map_id]
  cases e2 : splitT c x with
  | nil => exact absurd e2 (splitT_ne c x)
  | cons y ys => simp
theorem joinT_eq (s : Tx) : ∀ ts : List Tx, TL.joinL s ts = joinT s ts
  | [] => rfl
  | [_] => rfl
  | x :: y :: r => by
    show x ++ (s ++ TL.joinL s (y :: r)) = x ++ s ++ joinT s (y :: r)
    rw [joinT_eq s (y :: r), List.append_assoc]
theorem join_text (s : Tx) (ts : List Tx) : Txt.join (toS s) (ts.map toS) = toS (joinT s ts) := by
  rw [TL.join_eq]
  apply TL.ext_tl
  rw [TL.tl_join, List.map_map]
  have e : (TL.tl ∘ toS) = id := by funext z; simp [toS]
  rw [e, List.map_id]
  show TL.joinL (TL.tl (toS s)) ts = TL.tl (toS _)
  rw [show TL.tl (toS s) = s from toS_list s, show TL.tl (toS (joinT s ts)) = joinT s ts from toS_list _]
  exact joinT_eq s ts
theorem joinT_len (s : Tx) : ∀ ts : List Tx, (ts.map List.length).sum + ts.length * s.length ≤ (joinT s ts).length + s.length
  | [] => by simp [joinT]
  | [x] => by simp [joinT]
  | x :: y :: r => by
    have ih := joinT_len s (y :: r)
    simp only [joinT, List.length_append, List.map_cons, List.sum_cons, List.length_cons] at ih ⊢
    rw [Nat.add_mul, Nat.one_mul] at ih ⊢
    rw [Nat.add_mul, Nat.one_mul]
    omega
theorem join_size {s : Tx} {ts : List Tx} (h : (joinT s ts).length + s.length ≤ sz) : ((ts.map toS).map (·.length)).sum + (ts.map toS).length * (toS s).length ≤ 16777216 := by
  have e : ((ts.map toS).map (·.length)) = ts.map List.length := by
    rw [List.map_map]
    exact List.map_congr_left fun z _ => toS_len z
  rw [e, List.length_map, toS_len]
  exact Nat.le_trans (joinT_len s ts) h
theorem starts_text (x p : Tx) (hp : p ≠ []) : Txt.startswith (toS x) (toS p) = p.isPrefixOf x := by
  have hy : TL.tl (toS p) ≠ [] := by rw [toS_tl]; exact hp
  have h := TL.at_iff (x := toS x) hy 0
  have e : Txt.startswith (toS x) (toS p) = true ↔ StrLaws.At (toS x) (toS p) (toS x).length 0 := by
    unfold Txt.startswith StrLaws.At
    rw [Bool.and_eq_true, decide_eq_true_eq]
  rw [Bool.eq_iff_iff, e, h, toS_tl, toS_tl, List.drop_zero]
  unfold TL.pre
  rw [beq_iff_eq, List.isPrefixOf_iff_prefix]
  exact ⟨fun z => by rw [← z]; exact List.take_prefix _ _, fun z => (List.prefix_iff_eq_take.mp z).symm⟩
def mthHas : M → Bool
  | .join => true
  | .split => true
  | .starts => true
  | _ => false
def mthId : M → String
  | .join => "str.join"
  | .split => "str.split"
  | .starts => "str.startswith"
  | .ends => "str.endswith"
  | .count => "str.count"
  | .index => "str.index"
  | .get => "dict.get"
def rMth (X : Cx) (fa : Fa) (m : M) : V → List V → Hp → VK → Prop := fun x vs H Q => ∃ (F : Hp) (al : List Addr) (dx : D) (ds : List D) (d : D), (∀ p o, F p = some o → H p = some o) ∧ VP X.K fa F al H x dx ∧ VPL X.K fa F al H vs ds ∧ mth m dx ds = some d ∧ ∀ v H', Res X.K fa F al H v d H' → Q v H'
theorem strs_rep {K : PySem.W.Frag} {F : Hp} {al : List Addr} : ∀ ts : List Tx, RepL K fa F al ((ts.map toS).map V.str) (ts.map D.str)
  | [] => .nil
  | t :: ts => .cons (.str t) (strs_rep ts)
theorem mt_mth (m : M) (hm : mthHas m = true) : MtR X (mthId m) (rMth X fa m) := by
  intro pins s σ H x vs v us Q I rx rv h
  obtain ⟨F, al, dx, ds, d, hs, hx, hv, e, q⟩ := h
  cases m <;> simp only [mthHas] at hm <;> first | cases hm | skip
  · cases dx <;> first | cases e | skip
    rename_i t
    have e : mJoin t ds = some d := e
    obtain rfl := hx.str
    unfold mJoin at e
    split at e
    · obtain ⟨ts, h0, e⟩ := Option.bind_eq_some_iff.mp e
      obtain ⟨c, rfl⟩ := ite_some e
      obtain ⟨v, rfl, h1⟩ := hv.one
      obtain ⟨p, ws, rfl, h2, r⟩ := h1.list hs
      obtain rfl := textsD_rep r h0
      refine mt_join pins s σ H _ _ v us Q I rx rv ⟨_, _, _, rfl, rfl, .inl (.inl (.inl h2)), join_size c, ?_⟩
      rw [join_text]
      exact sc q (.str _)
    · obtain ⟨ts, h0, e⟩ := Option.bind_eq_some_iff.mp e
      obtain ⟨c, rfl⟩ := ite_some e
      obtain ⟨v, rfl, h1⟩ := hv.one
      obtain ⟨p, ws, rfl, h2, r⟩ := h1.tuple hs
      obtain rfl := textsD_rep r h0
      refine mt_join pins s σ H _ _ v us Q I rx rv ⟨_, _, _, rfl, rfl, .inr h2, join_size c, ?_⟩
      rw [join_text]
      exact sc q (.str _)
    · cases e
  · cases dx <;> first | cases e | skip
    rename_i t
    have e : mSplit t ds = some d := e
    obtain rfl := hx.str
    unfold mSplit at e
    split at e
    · obtain ⟨⟨c1, c2⟩, rfl⟩ := ite_some e
      obtain ⟨v, rfl, h1⟩ := hv.one
      obtain rfl := h1.str
      refine mt_split pins s σ H _ _ v us Q I rx rv ⟨_, _, rfl, rfl, by simp [toS, Str.length], by rw [toS_len]; exact szl c1, fun p hp => ?_⟩
      rw [split_text _ c2]
      exact q _ _ (.lst hp (strs_rep _))
    · cases e
  · cases dx <;> first | cases e | skip
    rename_i t
    have e : mStarts t ds = some d := e
    obtain rfl := hx.str
    unfold mStarts at e
    split at e
    · cases e
      obtain ⟨v, rfl, h1⟩ := hv.one
      obtain rfl := h1.str
      refine mt_startswith pins s σ H _ _ v us Q I rx rv ⟨_, _, rfl, rfl, ?_⟩
      rw [starts_text _ _ (by simp)]
      exact sc q (.bl _)
    · cases e
end
end Lb
end
section
set_option Elab.async false
set_option linter.all false
set_option maxRecDepth 100000
namespace Lb
open PySem PySem.Spec PyProof.Rows L2

structure Tb where
  fns : List (Nat × Str)
  kons : List (Tx × D)
abbrev Sto := Str → Bool
def glob (sc : Scope) (x : Str) : Bool := match sc.names.lookup x with
  | some .globalImplicit => true
  | _ => false
def vis (sc : Scope) (x : Str) : Bool := match sc.names.lookup x with
  | some .local => true
  | some .cell => true
  | some .free => true
  | _ => false
def stoS (sc : Scope) : Sto := fun x => match sc.names.lookup x with
  | some .local => true
  | some .cell => true
  | _ => false
def okName (x : Str) : Bool := decide (x ≠ ("__debug__" : Str)) && decide (x ≠ ("__classdict__" : Str)) && decide (x ≠ ("__name__" : Str))
def unstar : Expr → Bool
  | .Starred .. => false
  | _ => true
def isComp : Expr → Bool
  | .ListComp .. => true
  | .SetComp .. => true
  | .DictComp .. => true
  | _ => false
def isSet : Expr → Bool
  | .Set .. => true
  | _ => false
def isSlice : Expr → Bool
  | .Slice .. => true
  | _ => false
def noCall0 : Expr → Bool
  | .Call _ [] _ _ => false
  | _ => true
def plainT : Expr → Bool
  | .UnaryOp .Not _ _ => false
  | .BoolOp .. => false
  | .IfExp .. => false
  | .Compare .. => false
  | _ => true
def ckVar (N : List Str) (sc : Scope) (i : Nat) : Expr → Bool
  | .Name x _ => decide (N[i]? = some x) && vis sc x && okName x
  | _ => false
def ckC : D → Const → Bool
  | .non, .none => true
  | .bl b, .bool c => b == c
  | .int i, .int j => decide (i = j)
  | .str x, .str y => decide (y = toS x)
  | _, _ => false
def ckK : Kc → Const → Bool
  | .non, .none => true
  | .tru, .bool true => true
  | .fls, .bool false => true
  | _, _ => false
def bltName : B → Str
  | .len => "len"
  | .tup => "tuple"
  | .lst => "list"
  | .sorted => "sorted"
  | .all => "all"
  | .any => "any"
  | .sum => "sum"
  | .min1 => "min"
  | .max1 => "max"
  | .min2 => "min"
  | .max2 => "max"
  | .abs => "abs"
  | .int => "int"
  | .str => "str"
  | .repr => "repr"
def tyName : Ty → Str
  | .str => "str"
  | .int => "int"
  | .bool => "bool"
  | .tup => "tuple"
  | .lst => "list"
  | .dic => "dict"
def mthName : M → Str
  | .join => "join"
  | .split => "split"
  | .starts => "startswith"
  | .ends => "endswith"
  | .count => "count"
  | .index => "index"
  | .get => "get"
mutual
def beqD : D → D → Bool
  | .non, .non => true
  | .bl a, .bl b => a == b
  | .int a, .int b => decide (a = b)
  | .str a, .str b => decide (a = b)
  | .tup a, .tup b => beqL a b
  | .lst a, .lst b => beqL a b
  | .dic a, .dic b => beqK a b
  | .fn a, .fn b => decide (a = b)
  | _, _ => false
def beqL : List D → List D → Bool
  | [], [] => true
  | a :: r, b :: s => beqD a b && beqL r s
  | _, _ => false
def beqK : List (Tx × D) → List (Tx × D) → Bool
  | [], [] => true
  | (k, a) :: r, (l, b) :: s => decide (k = l) && beqD a b && beqK r s
  | _, _ => false
end
mutual
theorem beqD_eq : ∀ {a b : D}, beqD a b = true → a = b
  | .non, b, h => by cases b <;> first | rfl | (simp [beqD] at h; done)
  | .bl _, b, h => by cases b <;> first | (simp [beqD] at h; done) | (simp only [beqD, beq_iff_eq] at h; rw [h])
  | .int _, b, h => by cases b <;> first | (simp [beqD] at h; done) | (simp only [beqD, decide_eq_true_eq] at h; rw [h])
  | .str _, b, h => by cases b <;> first | (simp [beqD] at h; done) | (simp only [beqD, decide_eq_true_eq] at h; rw [h])
  | .tup _, b, h => by cases b <;> first | (simp [beqD] at h; done) | (simp only [beqD] at h; rw [beqL_eq h])
  | .lst _, b, h => by cases b <;> first | (simp [beqD] at h; done) | (simp only [beqD] at h; rw [beqL_eq h])
  | .dic _, b, h => by cases b <;> first | (simp [beqD] at h; done) | (simp only [beqD] at h; rw [beqK_eq h])
  | .fn _, b, h => by cases b <;> first | (simp [beqD] at h; done) | (simp only [beqD, decide_eq_true_eq] at h; rw [h])
  | .cell _, b, h => by cases b <;> simp [beqD] at h
  | .exc _ _, b, h => by cases b <;> simp [beqD] at h
  | .scr _, b, h => by cases b <;> simp [beqD] at h
theorem beqL_eq : ∀ {a b : List D}, beqL a b = true → a = b
  | [], [], _ => rfl
  | [], _ :: _, h => by simp [beqL] at h
  | _ :: _, [], h => by simp [beqL] at h
  | _ :: _, _ :: _, h => by
    simp only [beqL, Bool.and_eq_true] at h
    rw [beqD_eq h.1, beqL_eq h.2]
theorem beqK_eq : ∀ {a b : List (Tx × D)}, beqK a b = true → a = b
  | [], [], _ => rfl
  | [], _ :: _, h => by simp [beqK] at h
  | _ :: _, [], h => by simp [beqK] at h
  | (_, _) :: _, (_, _) :: _, h => by
    simp only [beqK, Bool.and_eq_true, decide_eq_true_eq] at h
    rw [h.1.1, beqD_eq h.1.2, beqK_eq h.2]
end
inductive Fm where
  | rep | own | new
  deriving DecidableEq
def form : Ex → Fm
  | .peek _ => .own
  | .bin _ _ _ => .new
  | .slice _ _ _ => .new
  | .rev _ => .new
  | .lst _ => .new
  | .comp _ _ _ => .new
  | .compIf _ _ _ _ => .new
  | .blt _ _ => .new
  | .mth _ _ _ => .new
  | .sset _ => .new
  | .sumL _ => .new
  | _ => .rep
def frz (m : Ex) : Bool := decide (form m ≠ .own)
def ckTg (N : List Str) (sto : Sto) : Tg → Expr → Bool
  | .nm i, .Name x _ => decide (N[i]? = some x) && sto x
  | .tu2 a b, .Tuple [x, y] _ _ => ckTg N sto a x && ckTg N sto b y
  | .tu is, .Tuple es _ _ => decide (is.length = es.length) && (is.zip es).all fun p => match p.2 with
    | .Name x _ => decide (N[p.1]? = some x) && sto x
    | _ => false
  | _, _ => false
def ownOf (N : List Str) (is : List Nat) : List (Str × Nat) := is.map fun i => (N.getD i Str.empty, i)
def lenEs : Exs → Nat
  | .nil => 0
  | .cons _ r => lenEs r + 1
def ckKs : List Tx → List (Option Expr) → Bool
  | [], [] => true
  | k :: ks, some (.Constant (.str y) _ _) :: us => decide (y = toS k) && ckKs ks us
  | _, _ => false
mutual
def ckE (T : Tb) (N : List Str) (sc : Scope) (sto : Sto) : Ex → Expr → Bool
  | .var i, e => ckVar N sc i e
  | .peek i, e => ckVar N sc i e
  | .lit d, e => match e with
    | .Constant c _ _ => ckC d c
    | _ => false
  | .kon x d, e => match e with
    | .Name y _ => decide (y = toS x) && glob sc y && okName y && T.kons.any fun p => decide (p.1 = x) && beqD p.2 d
    | _ => false
  | .bin o a b, e => match e with
    | .BinOp l op r _ => decide (op = opc o) && ckE T N sc sto a l && ckE T N sc sto b r
    | _ => false
  | .neg a, e => match e with
    | .UnaryOp .USub e _ => frz a && ckE T N sc sto a e
    | _ => false
  | .not a, e => match e with
    | .UnaryOp .Not e _ => frz a && ckE T N sc sto a e
    | _ => false
  | .and a b, e => match e with
    | .BoolOp .And (x :: y :: r) p => frz a && frz b && ckE T N sc sto a x && (match r with
      | [] => ckE T N sc sto b y
      | z :: r => ckE T N sc sto b (.BoolOp .And (y :: z :: r) p))
    | _ => false
  | .or a b, e => match e with
    | .BoolOp .Or (x :: y :: r) p => frz a && frz b && ckE T N sc sto a x && (match r with
      | [] => ckE T N sc sto b y
      | z :: r => ckE T N sc sto b (.BoolOp .Or (y :: z :: r) p))
    | _ => false
  | .cmp c a b, e => match e with
    | .Compare l [op] [r] _ => decide (op = cmc c) && ckE T N sc sto a l && ckE T N sc sto b r && !isSet r
    | _ => false
  | .chain c c' a b m, e => match e with
    | .Compare l [o1, o2] [x, r] _ => decide (o1 = cmc c) && decide (o2 = cmc c') && frz a && frz b && frz m && ckE T N sc sto a l && ckE T N sc sto b x && ckE T N sc sto m r && !isSet r && !isSet x
    | _ => false
  | .isk n a k, e => match e with
    | .Compare l [op] [.Constant c _ _] _ => decide (op = (if n then .IsNot else .Is)) && ckK k c && ckE T N sc sto a l
    | _ => false
  | .ix a i, e => match e with
    | .Subscript v s _ => frz i && ckE T N sc sto a v && ckE T N sc sto i s && !isSlice s
    | _ => false
  | .slice a lo hi, e => match e with
    | .Subscript v (.Slice l u none _) _ => ckE T N sc sto a v && ckP T N sc sto lo l && ckP T N sc sto hi u
    | _ => false
  | .rev a, e => match e with
    | .Subscript v (.Slice none none (some (.UnaryOp .USub (.Constant (.int i) _ _) _)) _) _ => decide (i = 1) && ckE T N sc sto a v
    | _ => false
  | .dic ks es, e => match e with
    | .Dict us vs _ => decide (ks.length ≤ 15) && decide (ks.Nodup) && ckKs ks us && decide (lenEs es = ks.length) && ckEs T N sc sto true es vs
    | _ => false
  | .tup es, e => match e with
    | .Tuple l _ _ => ckEs T N sc sto true es l
    | _ => false
  | .lst es, e => match e with
    | .List l _ => ckEs T N sc sto true es l
    | _ => false
  | .call f es, e => match e with
    | .Call (.Name x _) (y :: r) [] _ => decide (T.fns.lookup f = some x) && glob sc x && okName x && ckEs T N sc sto true es (y :: r)
    | _ => false
  | .blt b es, e => match e with
    | .Call (.Name x _) (y :: r) [] _ => bltHas b && decide (x = bltName b) && glob sc x && ckEs T N sc sto false es (y :: r)
    | _ => false
  | .isi a t, e => match e with
    | .Call (.Name x _) [e, .Name y _] [] _ => decide (x = ("isinstance" : Str)) && glob sc x && decide (y = tyName t) && glob sc y && unstar e && ckE T N sc sto a e
    | _ => false
  | .mth m o es, e => match e with
    | .Call (.Attribute e nm ap) [x] [] cp => mthHas m && decide (nm = mthName m) && (ap.endLine == cp.line) && noCall0 e && decide (lenEs es = 1) && ckE T N sc sto o e && ckEs T N sc sto false es [x]
    | _ => false
  | .comp tg it el, e => match e with
    | .ListComp e [⟨t, i, [], 0⟩] sp _ => frz el && ckIc T N sc sto it i && blkC N sc sp (ownOf N tg.slots) && ckTg N (stoS sp) tg t && ckE T N (relS sp sc) (stoS sp) el e && !isSet i
    | _ => false
  | .compIf tg it cn el, e => match e with
    | .ListComp e [⟨t, i, [c], 0⟩] sp _ => frz el && frz cn && ckIc T N sc sto it i && blkC N sc sp (ownOf N tg.slots) && ckTg N (stoS sp) tg t && ckE T N (relS sp sc) (stoS sp) cn c && ckE T N (relS sp sc) (stoS sp) el e && !isSet i
    | _ => false
  | .mk a, e => decide (form a = .new) && ckE T N sc sto a e
  | .sset a, e => match e with
    | .Call (.Name x _) [.Call (.Name y _) [e] [] _] [] _ => decide (x = ("sorted" : Str)) && glob sc x && decide (y = ("set" : Str)) && glob sc y && unstar e && ckE T N sc sto a e
    | _ => false
  | .lset a, e => match e with
    | .Call (.Name x _) [.Call (.Name y _) [e] [] _] [] _ => decide (x = ("len" : Str)) && glob sc x && decide (y = ("set" : Str)) && glob sc y && unstar e && ckE T N sc sto a e
    | _ => false
  | .sumL a, e => match e with
    | .Call (.Name x _) [e, .List [] _] [] _ => decide (x = ("sum" : Str)) && glob sc x && unstar e && ckE T N sc sto a e
    | _ => false
def ckP (T : Tb) (N : List Str) (sc : Scope) (sto : Sto) : Po → Option Expr → Bool
  | .no, o => o.isNone
  | .at a, o => match o with
    | some e => frz a && ckE T N sc sto a e
    | none => false
def ckEs (T : Tb) (N : List Str) (sc : Scope) (sto : Sto) (fz : Bool) : Exs → List Expr → Bool
  | .nil, l => l.isEmpty
  | .cons a r, l => match l with
    | e :: es => (!fz || frz a) && unstar e && ckE T N sc sto a e && ckEs T N sc sto fz r es
    | [] => false
def ckI (T : Tb) (N : List Str) (sc : Scope) (sto : Sto) : It → Expr → Bool
  | .seq a, e => frz a && ckE T N sc sto a e && !isSet e
  | .rng1 a, e => match e with
    | .Call (.Name x _) [e] [] _ => decide (x = ("range" : Str)) && glob sc x && unstar e && frz a && ckE T N sc sto a e
    | _ => false
  | .rng2 a b, e => match e with
    | .Call (.Name x _) [e, e2] [] _ => decide (x = ("range" : Str)) && glob sc x && unstar e && unstar e2 && frz a && frz b && ckE T N sc sto a e && ckE T N sc sto b e2
    | _ => false
  | .enum _, _ => false
  | .zip _ _, _ => false
  | .own _, _ => false
  | .cel _, _ => false
def ckIc (T : Tb) (N : List Str) (sc : Scope) (sto : Sto) : It → Expr → Bool
  | .own j, e => ckVar N sc j e
  | .cel j, e => ckVar N sc j e
  | .seq a, e => frz a && ckE T N sc sto a e && !isSet e
  | .rng1 a, e => match e with
    | .Call (.Name x _) [e] [] _ => decide (x = ("range" : Str)) && glob sc x && unstar e && frz a && ckE T N sc sto a e
    | _ => false
  | .rng2 a b, e => match e with
    | .Call (.Name x _) [e, e2] [] _ => decide (x = ("range" : Str)) && glob sc x && unstar e && unstar e2 && frz a && frz b && ckE T N sc sto a e && ckE T N sc sto b e2
    | _ => false
  | .enum _, _ => false
  | .zip _ _, _ => false
end
end Lb
end
section
set_option Elab.async false
set_option linter.all false
set_option maxRecDepth 100000
namespace Lb
open PySem PySem.Spec PyProof.Rows L2

abbrev XRel := Nat → D → Value → Option Addr → Hp → Prop
/-- a def's promise: its answer is the evaluator's -/
def spF (K : PySem.W.Frag) (fa : Fa) (XR : XRel) (c : Cl) (f : Nat) : Sp := fun vs H Q E => ∃ (w : Wd) (h : Heap) (ds : List D), Sim K fa w h H ∧ w.RL K fa vs ds ∧ Good K fa (fun w' H' v d => w'.R K fa v d) XR (fun cls dx _ H' => E cls dx H') [] w H (c f ds h) Q
def bltNames : List Str := ["len", "tuple", "list", "sorted", "set", "all", "any", "sum", "min", "max", "abs", "int", "str", "repr", "isinstance", "range", "enumerate", "zip", "dict", "bool"]
structure Gok (T : Tb) (fa : Fa) (XR : XRel) (c : Cl) (n : Nat) (X : Cx) : Prop where
  fns : ∀ f x, T.fns.lookup f = some x → ∃ a fd ps, X.mg x = some (.ref a) ∧ PySem.W.keepIn X.K (.ref a) = true ∧ Binds X.K fd ps [] ∧ FnOk X.prog X.w X.K X.mg X.base (L2.CX X.prog X.w) n a fd ps (spF X.K fa XR c f)
  kons : ∀ x d, (x, d) ∈ T.kons → ∃ v u, X.mg (toS x) = some u ∧ RelV v u ∧ ∀ F al, Rep X.K fa F al v d
  free : ∀ x ∈ bltNames, X.mg x = none
structure Cok (T : Tb) (fa : Fa) (XR : XRel) (c : Cl) (n : Nat) (N : List Str) (sc : Scope) (sto : Sto) (X : Cx) : Prop where
  g : Gok T fa XR c n X
  N : X.N = N
  nd : X.N.Nodup
  sc : X.env.scope = sc
  calm : X.calm = true
  room : Room n X.A
  sto : ∀ x, sto x = true → Loc X.env.scope x ∧ (X.fn x = true ∨ X.env.scope.names.lookup x = some .local)

def RelN (K : PySem.W.Frag) (fa : Fa) (H : Hp) (w : Wd) (H' : Hp) (v : V) (d : D) : Prop :=
  (w.R K fa v d ∧ ∀ xs, d ≠ .lst xs) ∨ ∃ p vs xs, v = .ref p ∧ d = .lst xs ∧ H' p = some (.lst vs) ∧ w.RL K fa vs xs ∧ w.F p = none ∧ p ∉ w.al ∧ H p = none
def RelO (K : PySem.W.Frag) (fa : Fa) (w : Wd) (H' : Hp) (v : V) (d : D) : Prop := ∃ p vs xs, v = .ref p ∧ d = .lst xs ∧ H' p = some (.lst vs) ∧ w.RL K fa vs xs ∧ p ∉ w.al
def RelF (K : PySem.W.Frag) (fa : Fa) (f : Fm) (H : Hp) (w : Wd) (H' : Hp) (v : V) (d : D) : Prop := match f with
  | .rep => w.R K fa v d
  | .own => RelO K fa w H' v d
  | .new => RelN K fa H w H' v d
/-- looked at -/
def RelB (K : PySem.W.Frag) (fa : Fa) (w : Wd) (H' : Hp) (v : V) (d : D) : Prop := w.R K fa v d ∨ RelO K fa w H' v d
def tR {α β : Type} (K : PySem.W.Frag) (fa : Fa) (XR : XRel) (W : WX) (H0 : Hp) (Rel : Hp → Wd → Hp → β → α → Prop) (ev : Fr → Heap → R α) : St → Hp → (β → Hp → Prop) → Prop := fun τ H Q =>
  ∃ (w : Wd) (h : Heap) (σ : Fr), Sim K fa w h H ∧ SRep K fa H0 w H σ τ ∧ Good K fa (Rel H) XR W τ w H (ev σ h) Q
section
variable {K : PySem.W.Frag} {fa : Fa} {XR : XRel} {W : WX} {H0 H H1 H2 : Hp} {w w1 w2 : Wd} {h h1 h2 : Heap} {τ : St} {v : V} {d : D}
theorem RelF.b {f : Fm} (r : RelF K fa f H w H1 v d) : RelB K fa w H1 v d := by
  cases f with
  | rep => exact .inl r
  | own => exact .inr r
  | new =>
    rcases r with ⟨r, _⟩ | ⟨p, vs, xs, rfl, rfl, h1, h2, h3, h4, h5⟩
    · exact .inl r
    · exact .inr ⟨p, vs, xs, rfl, rfl, h1, h2, h4⟩
theorem RelB.ext (r : RelB K fa w H v d) (e : Ext w H w1 H1) : RelB K fa w1 H1 v d := by
  rcases r with r | ⟨p, vs, xs, rfl, rfl, h1, h2, h3⟩
  · exact .inl (e.R r)
  · exact .inr ⟨p, vs, xs, rfl, rfl, e.keep p _ h1 h3, e.RL h2, fun m => (e.new p m).elim h3 fun z => by rw [h1] at z; cases z⟩
theorem RelB.vp (r : RelB K fa w H v d) (S : Sim K fa w h H) : VP K fa w.F w.al H v (rd h d) := by
  rcases r with r | ⟨p, vs, xs, rfl, rfl, h1, h2, h3⟩
  · cases r with
    | cell ha =>
      rename_i a i
      cases e : h[i]? with
      | none =>
        have er : rd h (.cell i) = .cell i := by simp only [rd, e]
        rw [er]
        exact .rep (.cell ha)
      | some c =>
        obtain ⟨p, hp, hc⟩ := S.cell i c e
        rw [ha] at hp; cases hp
        cases c with
        | lst xs =>
          have er : rd h (.cell i) = .lst xs := by simp only [rd, e]
          rw [er]
          unfold CellR at hc
          split at hc
          · rename_i q1 q2; cases q1; exact .lst q2 hc
          · rename_i q1 q2; cases q1
          · exact hc.elim
        | dic xs =>
          have er : rd h (.cell i) = .dic xs := by simp only [rd, e]
          rw [er]
          unfold CellR at hc
          split at hc
          · rename_i q1 q2; cases q1
          · rename_i q1 q2; cases q1; exact .dic q2 hc
          · exact hc.elim
        | ins c fs =>
          have er : rd h (.cell i) = .cell i := by simp only [rd, e]
          rw [er]
          exact .rep (.cell ha)
    | non => exact .rep .non
    | bl b => exact .rep (.bl b)
    | int i => exact .rep (.int i)
    | str x => exact .rep (.str x)
    | tup a b => exact .rep (.tup a b)
    | lst a b => exact .rep (.lst a b)
    | dic a b => exact .rep (.dic a b)
    | fn a => exact .rep (.fn a)
    | scr a => exact .rep (.scr a)
  · exact .lst h1 h2
theorem Sim.at (S : Sim K fa w h H) {p : Addr} (m : p ∈ w.al) : ∃ o, H p = some o := by
  obtain ⟨i, hi, e⟩ := List.mem_iff_getElem.mp m
  have hl : i < h.length := by rw [S.len]; exact hi
  obtain ⟨q, hq, hc⟩ := S.cell i h[i] (List.getElem?_eq_getElem hl)
  rw [List.getElem?_eq_getElem hi] at hq
  have : q = p := by rw [← e]; exact (Option.some.inj hq).symm
  subst this
  cases e2 : H q with
  | none =>
    rw [e2] at hc
    cases q2 : h[i] <;> rw [q2] at hc <;> exact (show False from hc).elim
  | some o => exact ⟨o, rfl⟩
/-- a new object is laid, and frozen -/
def Wd.add (w : Wd) (p : Addr) (o : HO) : Wd := ⟨upd w.F p o, w.al⟩
theorem Ext.add {p : Addr} {o : HO} (hp : H p = none) (S : Sim K fa w h H) : Ext w H (w.add p o) (upd H p o) where
  F := fun q u e => by
    have ne : q ≠ p := fun z => by subst z; rw [S.sub _ _ e] at hp; cases hp
    show upd w.F p o q = _
    rw [upd_ne ne]; exact e
  al := fun _ _ e => e
  keep := fun q u e _ => by rw [upd_ne (ne_of_none e hp)]; exact e
  tr := fun q u e => ⟨u, by rw [upd_ne (ne_of_none e hp)]; exact e⟩
  new := fun q m => .inl m
  frz := fun q u e => by
    by_cases ne : q = p
    · subst ne; exact .inr hp
    · have e : upd w.F p o q = some u := e
      rw [upd_ne ne] at e; exact .inl e
theorem CellR.mono {w' : Wd} {c : Cell} {o : Option HO} (hF : ∀ p o, w.F p = some o → w'.F p = some o) (ha : ∀ (i : Nat) a, w.al[i]? = some a → w'.al[i]? = some a) (r : CellR K fa w c o) : CellR K fa w' c o := by
  unfold CellR at r ⊢
  split at r
  · exact RepL.mono hF ha r
  · exact RepK.mono hF ha r
  · exact r.elim
theorem Sim.keepCells {w' : Wd} {H' : Hp} (S : Sim K fa w h H) (e : Ext w H w' H') (hal : w'.al = w.al) (sub : ∀ p o, w'.F p = some o → H' p = some o) (out : ∀ p ∈ w.al, w'.F p = none) (same : ∀ p ∈ w.al, H' p = H p) : Sim K fa w' h H' where
  sub := sub
  nd := by rw [hal]; exact S.nd
  out := by rw [hal]; exact out
  len := by rw [hal]; exact S.len
  cell := fun i c q => by
    obtain ⟨p, h1, h2⟩ := S.cell i c q
    refine ⟨p, e.al i p h1, ?_⟩
    rw [same p (List.mem_of_getElem? h1)]
    exact CellR.mono e.F e.al h2
theorem Sim.add {p : Addr} {o : HO} (hp : H p = none) (S : Sim K fa w h H) : Sim K fa (w.add p o) h (upd H p o) := by
  have nal : ∀ q ∈ w.al, q ≠ p := fun q m z => by
    subst z
    obtain ⟨u, e⟩ := S.at m
    rw [hp] at e; cases e
  refine S.keepCells (Ext.add hp S) rfl (fun q u e => ?_) (fun q m => ?_) fun q m => upd_ne (nal q m)
  · have e : upd w.F p o q = some u := e
    by_cases ne : q = p
    · subst ne; rw [upd_same] at e; rw [upd_same]; exact e
    · rw [upd_ne ne] at e; rw [upd_ne ne]; exact S.sub _ _ e
  · show upd w.F p o q = none
    rw [upd_ne (nal q m)]
    exact S.out q m
/-- a new object is laid, its list not frozen -/
theorem Ext.lay {p : Addr} {o : HO} (hp : H p = none) : Ext w H w (upd H p o) where
  F := fun _ _ e => e
  al := fun _ _ e => e
  keep := fun q u e _ => by rw [upd_ne (ne_of_none e hp)]; exact e
  tr := fun q u e => ⟨u, by rw [upd_ne (ne_of_none e hp)]; exact e⟩
  new := fun q m => .inl m
  frz := fun q u e => .inl e
theorem Sim.lay {p : Addr} {o : HO} (hp : H p = none) (S : Sim K fa w h H) : Sim K fa w h (upd H p o) := by
  refine S.keepCells (Ext.lay hp) rfl (fun q u e => ?_) (fun q m => S.out q m) fun q m => upd_ne fun z => ?_
  · rw [upd_ne (ne_of_none (S.sub _ _ e) hp)]; exact S.sub _ _ e
  · subst z
    obtain ⟨u, e⟩ := S.at m
    rw [hp] at e; cases e
/-- an answer by values, in the world -/
theorem Res.toN {H3 : Hp} (r : Res K fa w2.F w2.al H2 v d H3) (S : Sim K fa w2 h2 H2) (e : Ext w H w2 H2) : ∃ w3, Ext w2 H2 w3 H3 ∧ Sim K fa w3 h2 H3 ∧ RelN K fa H w3 H3 v d := by
  cases r with
  | same r n => exact ⟨w2, Ext.refl, S, .inl ⟨r, n⟩⟩
  | @lst p vs xs hp r =>
    refine ⟨w2, Ext.lay hp, S.lay hp, .inr ⟨_, _, _, rfl, rfl, upd_same, r, ?_, fun m => ?_, none_of_tr e.tr hp⟩⟩
    · cases q : w2.F p with
      | none => rfl
      | some o => rw [S.sub _ _ q] at hp; cases hp
    · obtain ⟨u, q⟩ := S.at m
      rw [hp] at q; cases q
  | @tup p vs xs hp r =>
    have E := Ext.add (o := .tup vs) hp S
    exact ⟨_, E, S.add hp, .inl ⟨.tup (.inl (.inl (show upd w2.F p (.tup vs) p = _ from upd_same))) (E.RL r), fun _ z => nomatch z⟩⟩
  | @dic p vs xs hp r =>
    have E := Ext.add (o := .dK vs) hp S
    exact ⟨_, E, S.add hp, .inl ⟨.dic (show upd w2.F p (.dK vs) p = _ from upd_same) (RepK.mono E.F E.al r), fun _ z => nomatch z⟩⟩
/-- a new list is frozen -/
theorem RelN.freeze (r : RelN K fa H w1 H1 v d) (S : Sim K fa w1 h1 H1) (e : Ext w H w1 H1) : ∃ w2, Ext w H w2 H1 ∧ Sim K fa w2 h1 H1 ∧ w2.R K fa v d := by
  rcases r with ⟨r, _⟩ | ⟨p, vs, xs, rfl, rfl, q1, q2, q3, q4, q5⟩
  · exact ⟨w1, e, S, r⟩
  · have hF : ∀ q o, w1.F q = some o → (w1.add p (.lst vs)).F q = some o := fun q u z => by
      show upd w1.F p _ q = _
      rw [upd_ne (fun y => by subst y; rw [q3] at z; cases z)]
      exact z
    refine ⟨w1.add p (.lst vs), ⟨fun q u z => hF q u (e.F q u z), e.al, e.keep, e.tr, e.new, fun q u z => ?_⟩, ⟨fun q u z => ?_, S.nd, fun q m => ?_, S.len, fun i c z => ?_⟩, .lst (show upd w1.F p _ p = _ from upd_same) (RepL.mono hF (fun _ _ z => z) q2)⟩
    · have z : upd w1.F p (.lst vs) q = some u := z
      by_cases ne : q = p
      · subst ne; exact .inr q5
      · rw [upd_ne ne] at z; exact e.frz q u z
    · have z : upd w1.F p (.lst vs) q = some u := z
      by_cases ne : q = p
      · subst ne; rw [upd_same] at z; cases z; exact q1
      · rw [upd_ne ne] at z; exact S.sub q u z
    · show upd w1.F p _ q = none
      rw [upd_ne (fun y => by subst y; exact q4 m)]
      exact S.out q m
    · obtain ⟨q, y1, y2⟩ := S.cell i c z
      exact ⟨q, y1, CellR.mono hF (fun _ _ z => z) y2⟩
theorem RelF.freeze {f : Fm} (hf : f ≠ .own) (r : RelF K fa f H w1 H1 v d) (S : Sim K fa w1 h1 H1) (e : Ext w H w1 H1) : ∃ w2, Ext w H w2 H1 ∧ Sim K fa w2 h1 H1 ∧ w2.R K fa v d := by
  cases f with
  | rep => exact ⟨w1, e, S, r⟩
  | own => exact absurd rfl hf
  | new => exact RelN.freeze r S e
theorem Good.freeze {f : Fm} (hf : f ≠ .own) {r : R D} {Q : VK} (g : Good K fa (fun w' H' v d => w'.R K fa v d) XR W τ w H r Q) : Good K fa (RelF K fa f H) XR W τ w H r Q := by
  cases r with
  | ok d h' =>
    intro w' H' v e S r
    obtain ⟨w2, e2, S2, r2⟩ := RelF.freeze hf r S e
    exact g w2 H' v e2 S2 r2
  | ex k p h' => exact g
  | bad => exact g
theorem Good.look {f : Fm} {r : R D} {Q : VK} (g : Good K fa (RelB K fa) XR W τ w H r Q) : Good K fa (RelF K fa f H) XR W τ w H r Q := by
  cases r with
  | ok d h' => exact fun w' H' v e S r => g w' H' v e S r.b
  | ex k p h' => exact g
  | bad => exact g
end
theorem _root_.L2.PE.imp {X : Cx} {e : Expr} {t t' : TE} (h : PE X e t) (i : ∀ σ H Q, t' σ H Q → t σ H Q) : PE X e t' := ⟨fun pins s σ H Q I q => h.run pins s σ H Q I (i σ H Q q)⟩
theorem _root_.L2.PT.imp {X : Cx} {e : Expr} {t t' : TT} (h : PT X e t) (i : ∀ σ H Q, t' σ H Q → t σ H Q) : PT X e t' := ⟨fun pins s σ H Q I q => h.run pins s σ H Q I (i σ H Q q)⟩
theorem _root_.L2.PA.imp {X : Cx} {e : List Expr} {t t' : TA} (h : PA X e t) (i : ∀ σ H Q, t' σ H Q → t σ H Q) : PA X e t' := ⟨fun pos pins s σ H Q I q => h.run pos pins s σ H Q I (i σ H Q q)⟩
theorem _root_.L2.PO.imp {X : Cx} {e : Option Expr} {t t' : TO} (h : PO X e t) (i : ∀ σ H Q, t' σ H Q → t σ H Q) : PO X e t' := ⟨fun pins s σ H Q I q => h.run pins s σ H Q I (i σ H Q q)⟩
section
variable (fa : Fa) (XR : XRel) (c : Cl) (W : WX) (H0 : Hp) (X : Cx)
/-- the reading of a term's run, at its own form -/
def tX (m : Ex) : TE := tR X.K fa XR W H0 (RelF X.K fa (form m)) fun σ h => evE c σ m h
/-- .. frozen -/
def tE (m : Ex) : TE := tR X.K fa XR W H0 (fun _ w' _ v d => w'.R X.K fa v d) fun σ h => evE c σ m h
/-- .. looked at -/
def tB (m : Ex) : TE := tR X.K fa XR W H0 (fun _ => RelB X.K fa) fun σ h => evE c σ m h
def tT (m : Ex) : TT := tR X.K fa XR W H0 (fun _ _ _ (a b : Bool) => a = b) fun σ h => evT c σ m h
end
section
variable {fa : Fa} {XR : XRel} {c : Cl} {W : WX} {H0 : Hp} {X : Cx} {m : Ex} {e : Expr}
theorem toE (hf : frz m = true) (h : PE X e (tX fa XR c W H0 X m)) : PE X e (tE fa XR c W H0 X m) := h.imp fun σ H Q ⟨w, hh, s, S, SR, g⟩ => ⟨w, hh, s, S, SR, Good.freeze (of_decide_eq_true hf) g⟩
theorem toB (h : PE X e (tX fa XR c W H0 X m)) : PE X e (tB fa XR c W H0 X m) := h.imp fun σ H Q ⟨w, hh, s, S, SR, g⟩ => ⟨w, hh, s, S, SR, Good.look g⟩
end
end Lb
end
section
set_option Elab.async false
set_option linter.all false
set_option maxRecDepth 100000
namespace Lb
open PySem PySem.Spec PyProof.Rows L2
section
variable {fa : Fa} {XR : XRel} {c : Cl} {W : WX} {H0 : Hp} {X : Cx} {T : Tb} {n : Nat} {N : List Str} {sc : Scope} {sto : Sto}

theorem vis_of {sc : Scope} {x : Str} (h : vis sc x = true) : Vis sc x := by
  unfold vis at h
  split at h
  · exact .inl (by assumption)
  · exact .inr (.inl (by assumption))
  · exact .inr (.inr (by assumption))
  · cases h
theorem glob_of {x : Str} (hs : X.env.scope = sc) (h : glob sc x = true) : Gl X x := by
  subst hs
  unfold glob at h
  split at h
  · assumption
  · cases h
theorem okName_of {x : Str} (h : okName x = true) : (x == ("__debug__" : Str)) = false ∧ (x == ("__classdict__" : Str)) = false ∧ x ≠ ("__name__" : Str) := by
  unfold okName at h
  simp only [Bool.and_eq_true, decide_eq_true_eq] at h
  exact ⟨beq_eq_false_iff_ne.mpr h.1.1, beq_eq_false_iff_ne.mpr h.1.2, h.2⟩
theorem ckVar_of (ok : Cok T fa XR c n N sc sto X) {i : Nat} {e : Expr} (h : ckVar N sc i e = true) : PE X e (tVar i) := by
  unfold ckVar at h
  split at h
  · simp only [Bool.and_eq_true, decide_eq_true_eq] at h
    obtain ⟨⟨h1, h2⟩, h3⟩ := h
    obtain ⟨n1, n2, _⟩ := okName_of h3
    exact pe_var (by rw [ok.N]; exact h1) (by rw [ok.sc]; exact vis_of h2) n1 n2
  · cases h
theorem snd_var (ok : Cok T fa XR c n N sc sto X) {i : Nat} {e : Expr} (h : ckVar N sc i e = true) : PE X e (tX fa XR c W H0 X (.var i)) := by
  refine (ckVar_of ok h).imp fun τ H Q ⟨w, hh, σ, S, SR, g⟩ => ?_
  have g : Good X.K fa _ XR W τ w H (match σ[i]? with
    | some (.v d) => .ok d hh
    | _ => .bad) Q := g
  split at g
  · rename_i d e
    obtain ⟨v, h1, h2⟩ := SR.val i d e
    exact ⟨v, h1, g w H v Ext.refl S h2⟩
  · exact g.elim
theorem snd_peek (ok : Cok T fa XR c n N sc sto X) {i : Nat} {e : Expr} (h : ckVar N sc i e = true) : PE X e (tX fa XR c W H0 X (.peek i)) := by
  refine (ckVar_of ok h).imp fun τ H Q ⟨w, hh, σ, S, SR, g⟩ => ?_
  have g : Good X.K fa (RelF X.K fa .own H) XR W τ w H (match σ[i]? with
    | some (.own xs) => .ok (.lst xs) hh
    | _ => .bad) Q := g
  split at g
  · rename_i xs e
    obtain ⟨p, vs, h1, h2, h3, h4, h5, h6⟩ := SR.own i xs e
    exact ⟨_, h1, g w H _ Ext.refl S ⟨p, vs, xs, rfl, rfl, h2, h3, h5⟩⟩
  · exact g.elim
theorem snd_lit {d : D} {k : Const} {j : Nat} {p : Pos} (h : ckC d k = true) : PE X (.Constant k j p) (tX fa XR c W H0 X (.lit d)) := by
  have fin : ∀ {v : V} (τ : St) (H : Hp) (Q : VK), (∀ F al, Rep X.K fa F al v d) → tX fa XR c W H0 X (.lit d) τ H Q → Q v H := fun τ H Q r ⟨w, hh, σ, S, SR, g⟩ => g w H _ Ext.refl S (r _ _)
  unfold ckC at h
  split at h
  · exact pe_non.imp fun τ H Q q => fin τ H Q (fun _ _ => .non) q
  · have e := eq_of_beq h
    subst e
    exact pe_bl.imp fun τ H Q q => fin τ H Q (fun _ _ => .bl _) q
  · have e := of_decide_eq_true h
    subst e
    exact pe_int.imp fun τ H Q q => fin τ H Q (fun _ _ => .int _) q
  · have e := of_decide_eq_true h
    subst e
    exact pe_str.imp fun τ H Q q => fin τ H Q (fun _ _ => .str _) q
  · cases h
theorem snd_kon (ok : Cok T fa XR c n N sc sto X) {x : Tx} {d : D} {y : Str} {p : Pos} (h1 : y = toS x) (h2 : glob sc y = true) (h3 : okName y = true) (h4 : (T.kons.any fun p => decide (p.1 = x) && beqD p.2 d) = true) : PE X (.Name y p) (tX fa XR c W H0 X (.kon x d)) := by
  obtain ⟨⟨x', d'⟩, m, q⟩ := List.any_eq_true.mp h4
  simp only [Bool.and_eq_true, decide_eq_true_eq] at q
  obtain ⟨q1, q2⟩ := q
  have q2 := beqD_eq q2
  subst q1 q2 h1
  obtain ⟨v, u, k1, k2, k3⟩ := ok.g.kons _ _ m
  exact (pe_glob (glob_of ok.sc h2) k1 k2 (okName_of h3).1).imp fun τ H Q ⟨w, hh, σ, S, SR, g⟩ => g w H _ Ext.refl S (k3 _ _)
theorem ofV {f : D → D → Option D} {Hs H1 H2 : Hp} {w0 w1 w2 : Wd} {h2 : Heap} {τ : St} {v v2 : V} {d d2 : D} {Q : VK} (e1 : Ext w0 Hs w1 H1) (e2 : Ext w1 H1 w2 H2) (S2 : Sim X.K fa w2 h2 H2) (r1 : RelB X.K fa w1 H1 v d) (r2 : RelB X.K fa w2 H2 v2 d2)
    (g : Good X.K fa (RelN X.K fa Hs) XR W τ w2 H2 (.of h2 (f (rd h2 d) (rd h2 d2))) Q) : rV X fa f v v2 H2 Q := by
  cases e : f (rd h2 d) (rd h2 d2) with
  | none => rw [e] at g; exact (show False from g).elim
  | some d3 =>
    rw [e] at g
    refine ⟨w2.F, w2.al, _, _, d3, S2.sub, (r1.ext e2).vp S2, r2.vp S2, e, fun v3 H3 res => ?_⟩
    obtain ⟨w3, e3, S3, n3⟩ := res.toN S2 (e1.trans e2)
    exact g w3 H3 v3 e3 S3 n3
theorem snd_bin {o : Op} {a b : Ex} {l r : Expr} {p : Pos} (ha : PE X l (tB fa XR c W H0 X a)) (hb : PE X r (tB fa XR c W H0 X b)) : PE X (.BinOp l (opc o) r p) (tX fa XR c W H0 X (.bin o a b)) :=
  (pe_op (op_bin o) ha hb).imp fun τ H Q ⟨w, h, σ, S, SR, g⟩ => ⟨w, h, σ, S, SR, Good.bind (f := fun x h1 => (evE c σ b h1).bind fun y h2 => .of h2 (bin o (rd h2 x) (rd h2 y))) g fun d h1 w1 H1 v _ e1 S1 r1 g1 =>
    ⟨w1, h1, σ, S1, SR.ext e1, Good.bind g1 fun d2 h2 w2 H2 v2 _ e2 S2 r2 g2 => ofV e1 e2 S2 r1 r2 g2⟩⟩
theorem snd_neg {a : Ex} {e : Expr} {p : Pos} (ha : PE X e (tE fa XR c W H0 X a)) : PE X (.UnaryOp .USub e p) (tX fa XR c W H0 X (.neg a)) :=
  (pe_un un_neg ha).imp fun τ H Q ⟨w, h, σ, S, SR, g⟩ => ⟨w, h, σ, S, SR, Good.bind (f := fun (x : D) h1 => match x with
    | D.int i => R.ok (D.int (-i)) h1
    | _ => R.bad) g fun d h1 w1 H1 v _ e1 S1 r1 g1 => by
      cases d with
      | int i => cases r1; exact ⟨_, rfl, g1 w1 H1 _ Ext.refl S1 (.int _)⟩
      | _ => exact (show False from g1).elim⟩
theorem snd_not {a : Ex} {e : Expr} {p : Pos} (ha : PE X e (tE fa XR c W H0 X a)) : PE X (.UnaryOp .Not e p) (tX fa XR c W H0 X (.not a)) :=
  (pe_not ha).imp fun τ H Q ⟨w, h, σ, S, SR, g⟩ => ⟨w, h, σ, S, SR, Good.bind (f := fun (x : D) h1 => match x with
    | D.bl b => R.ok (D.bl (!b)) h1
    | _ => R.bad) g fun d h1 w1 H1 v _ e1 S1 r1 g1 => by
      cases d with
      | bl i => cases r1; exact ⟨_, rfl, g1 w1 H1 _ Ext.refl S1 (.bl _)⟩
      | _ => exact (show False from g1).elim⟩
theorem snd_and {a b : Ex} {x y : Expr} {r : List Expr} {p : Pos} (ha : PE X x (tE fa XR c W H0 X a)) (hb : PE X (.BoolOp .And (y :: r) p) (tE fa XR c W H0 X b)) : PE X (.BoolOp .And (x :: y :: r) p) (tX fa XR c W H0 X (.and a b)) :=
  (pe_and ha hb).imp fun τ H Q ⟨w, h, σ, S, SR, g⟩ => ⟨w, h, σ, S, SR, Good.bind (f := fun (x : D) h1 => match x with
    | D.bl true => evE c σ b h1
    | D.bl false => R.ok (D.bl false) h1
    | _ => R.bad) g fun d h1 w1 H1 v _ e1 S1 r1 g1 => by
      cases d with
      | bl k =>
        cases r1
        cases k with
        | true => exact ⟨_, rfl, iteT ⟨w1, h1, σ, S1, SR.ext e1, g1⟩⟩
        | false => exact ⟨_, rfl, iteF (g1 w1 H1 _ Ext.refl S1 (.bl _))⟩
      | _ => exact (show False from g1).elim⟩
theorem snd_or {a b : Ex} {x y : Expr} {r : List Expr} {p : Pos} (ha : PE X x (tE fa XR c W H0 X a)) (hb : PE X (.BoolOp .Or (y :: r) p) (tE fa XR c W H0 X b)) : PE X (.BoolOp .Or (x :: y :: r) p) (tX fa XR c W H0 X (.or a b)) :=
  (pe_or ha hb).imp fun τ H Q ⟨w, h, σ, S, SR, g⟩ => ⟨w, h, σ, S, SR, Good.bind (f := fun (x : D) h1 => match x with
    | D.bl true => R.ok (D.bl true) h1
    | D.bl false => evE c σ b h1
    | _ => R.bad) g fun d h1 w1 H1 v _ e1 S1 r1 g1 => by
      cases d with
      | bl k =>
        cases r1
        cases k with
        | true => exact ⟨_, rfl, iteT (g1 w1 H1 _ Ext.refl S1 (.bl _))⟩
        | false => exact ⟨_, rfl, iteF ⟨w1, h1, σ, S1, SR.ext e1, g1⟩⟩
      | _ => exact (show False from g1).elim⟩
theorem behind_of {op : CmpOp} {r : Expr} (h : isSet r = false) : behindInMarks op r = false := by
  cases r <;> first | rfl | (simp [isSet] at h; done)
/-- a comparison, in and not in over a dict left out -/
def cmpS (c : Cm) (a b : D) : Option Bool := match c with
  | .isin => isInS a b
  | .notin => (isInS a b).map fun k => !k
  | c => cmp c a b
theorem ofC {o : Cm} {Hs H1 H2 : Hp} {w0 w1 w2 : Wd} {h2 : Heap} {τ : St} {v v2 : V} {d d2 : D} {Q : VK} (e2 : Ext w1 H1 w2 H2) (S2 : Sim X.K fa w2 h2 H2) (r1 : RelB X.K fa w1 H1 v d) (r2 : RelB X.K fa w2 H2 v2 d2)
    (g : Good X.K fa (fun w' H' v d => w'.R X.K fa v d) XR W τ w2 H2 (.of h2 ((cmpS o (rd h2 d) (rd h2 d2)).map .bl)) Q) : rC X fa (cmpS o) v v2 H2 Q := by
  cases e : cmpS o (rd h2 d) (rd h2 d2) with
  | none => rw [e] at g; exact (show False from g).elim
  | some k =>
    rw [e] at g
    exact ⟨w2.F, w2.al, _, _, k, S2.sub, (r1.ext e2).vp S2, r2.vp S2, e, g w2 H2 _ Ext.refl S2 (.bl _)⟩
end
end Lb
end
section
set_option Elab.async false
set_option linter.all false
set_option maxRecDepth 100000
namespace Lb
open PySem PySem.Spec PyProof.Rows L2
section
variable {X : Cx} {fa : Fa}
theorem keyR (k x : Tx) : decide ((.inr (toS k) : Key) = .inr (toS x)) = decide (k = x) := by
  by_cases e : k = x
  · subst e; simp
  · rw [decide_eq_false e, decide_eq_false]
    intro h
    exact e (toS_inj (Sum.inr.inj h))
theorem RepK.val {K : PySem.W.Frag} {F : Hp} {al : List Addr} (x : Tx) : ∀ {ds : List (Tx × D)} {kvs : List (Key × V)}, RepK K fa F al kvs ds → (∀ d, keyOf ds x = some d → ∃ v, valV kvs (.inr (toS x)) = some v ∧ Rep K fa F al v d) ∧ (keyOf ds x = none → valV kvs (.inr (toS x)) = none)
  | [], _, .nil => ⟨fun _ e => (by cases e), fun _ => rfl⟩
  | (k, d) :: ds, _, .cons (vs := vs) r t => by
    obtain ⟨h1, h2⟩ := RepK.val x t
    have q := keyR k x
    unfold valV at *
    unfold keyOf
    rw [List.find?_cons]
    show _ ∧ _
    simp only [q]
    by_cases c : k = x
    · subst c
      simp only [if_true, decide_true]
      exact ⟨fun e h => by cases h; exact ⟨_, rfl, r⟩, fun h => nomatch h⟩
    · rw [if_neg c, decide_eq_false c]
      exact ⟨h1, h2⟩
theorem keyOf_some {K : PySem.W.Frag} {F : Hp} {al : List Addr} {x : Tx} {ds : List (Tx × D)} {kvs : List (Key × V)} (r : RepK K fa F al kvs ds) : (valV kvs (.inr (toS x))).isSome = (keyOf ds x).isSome := by
  obtain ⟨h1, h2⟩ := RepK.val x r
  cases e : keyOf ds x with
  | none => rw [h2 e]; rfl
  | some d => obtain ⟨v, q, _⟩ := h1 d e; rw [q]; rfl
theorem op_isInD (neg : Bool) (hu : X.A.units + 65 < cLine) : OpR X (compareOp (if neg then .NotIn else .In)) (rC X fa fun a b => (isIn a b).map fun k => k != neg) := by
  intro pins s σ H x y v u Q I rx ry h
  obtain ⟨F, al, dx, dy, k, hs, hx, hy, e, q⟩ := h
  cases dy with
  | dic kvs =>
    cases dx with
    | str z =>
      obtain ⟨p, vs, rfl, h1, r⟩ := hy.dict hs
      obtain rfl := hx.str
      obtain rfl : u = .ref p := ry
      obtain ⟨k0, e0, rfl⟩ := Option.map_eq_some_iff.mp e
      have e0 : some (keyOf kvs z).isSome = some k0 := e0
      cases e0
      have g : DGet H p (.str (toS z)) (valV vs (.inr (toS z))) := DGet.k (k := .inr (toS z)) h1
      rw [← keyOf_some r] at q
      cases neg with
      | true => rw [ne_true] at q; exact d_notIn (by omega) I g rx fun s3 I3 => ⟨V.bl _, H, I3, rfl, q⟩
      | false => rw [ne_false] at q; exact d_in (by omega) I g rx fun s3 I3 => ⟨V.bl _, H, I3, rfl, q⟩
    | _ => cases e
  | _ => exact op_isIn (fa := fa) neg hu pins s σ H x y v u Q I rx ry ⟨F, al, dx, _, k, hs, hx, hy, e, q⟩
theorem op_cmpD (c : Cm) (hu : X.A.units + 65 < cLine) : OpR X (compareOp (cmc c)) (rC X fa (cmp c)) := by
  cases c with
  | isin =>
    intro pins s σ H x y v u Q I rx ry ⟨F, al, dx, dy, k, hs, hx, hy, e, q⟩
    refine op_isInD (fa := fa) false hu pins s σ H x y v u Q I rx ry ⟨F, al, dx, dy, k, hs, hx, hy, ?_, q⟩
    have e : isIn dx dy = some k := e
    show (isIn dx dy).map _ = _
    rw [e]
    exact congrArg some (ne_false k)
  | notin =>
    intro pins s σ H x y v u Q I rx ry ⟨F, al, dx, dy, k, hs, hx, hy, e, q⟩
    refine op_isInD (fa := fa) true hu pins s σ H x y v u Q I rx ry ⟨F, al, dx, dy, k, hs, hx, hy, ?_, q⟩
    obtain ⟨k0, e0, rfl⟩ := Option.map_eq_some_iff.mp e
    show (isIn dx dy).map _ = _
    rw [e0]
    exact congrArg some (ne_true k0)
  | eq => exact op_cmp .eq hu
  | ne => exact op_cmp .ne hu
  | lt => exact op_cmp .lt hu
  | le => exact op_cmp .le hu
  | gt => exact op_cmp .gt hu
  | ge => exact op_cmp .ge hu
def rItemD (X : Cx) (fa : Fa) : R2 := fun x y H Q => ∃ (F : Hp) (al : List Addr) (dx dy d : D), (∀ p o, F p = some o → H p = some o) ∧ VP X.K fa F al H x dx ∧ VP X.K fa F al H y dy ∧ item dx dy = some d ∧ ∀ v, Rep X.K fa F al v d → Q v H
theorem ix_itemD (hu : X.A.units + 1 < cLine) : IxR X (rItemD X fa) := by
  intro value sl pins s σ H x y v u Q I rx ry h hsub
  obtain ⟨F, al, dx, dy, d, hs, hx, hy, e, q⟩ := h
  by_cases c : ∃ ks, dx = .dic ks
  · obtain ⟨ks, rfl⟩ := c
    cases dy with
    | str z =>
      obtain ⟨p, vs, rfl, h1, r⟩ := hx.dict hs
      obtain rfl := hy.str
      obtain rfl : v = .ref p := rx
      have e : keyOf ks z = some d := e
      obtain ⟨w, e2, r2⟩ := (RepK.val z r).1 d e
      have g : DGet H p (.str (toS z)) (some w) := by
        have g : DGet H p (.str (toS z)) (valV vs (.inr (toS z))) := DGet.k (k := .inr (toS z)) h1
        rw [e2] at g
        exact g
      exact tail_any (dict_typeIs I g) PySem.F.slot_dict_getitem.lookup (d_getItem hu I g ry fun w' s3 I3 rw' => ⟨w, H, I3, rw', q w r2⟩) hsub
    | _ => cases e
  · exact ix_item value sl pins s σ H x y v u Q I rx ry ⟨F, al, dx, dy, d, hs, hx, hy, fun ks e => c ⟨ks, e⟩, e, q⟩ hsub
end
section
variable {fa : Fa} {XR : XRel} {c : Cl} {W : WX} {H0 : Hp} {X : Cx} {T : Tb} {n : Nat} {N : List Str} {sc : Scope} {sto : Sto}
theorem Cok.un (ok : Cok T fa XR c n N sc sto X) : X.A.units + 65 < cLine := by have := ok.room.un; omega
theorem ofC2 {o : Cm} {w1 w2 : Wd} {H1 H2 : Hp} {h2 : Heap} {τ : St} {v v2 : V} {d d2 : D} {Q : VK} (e2 : Ext w1 H1 w2 H2) (S2 : Sim X.K fa w2 h2 H2) (r1 : RelB X.K fa w1 H1 v d) (r2 : RelB X.K fa w2 H2 v2 d2)
    (g : Good X.K fa (fun w' H' v d => w'.R X.K fa v d) XR W τ w2 H2 (.of h2 ((cmp o (rd h2 d) (rd h2 d2)).map .bl)) Q) : rC X fa (cmp o) v v2 H2 Q := by
  cases e : cmp o (rd h2 d) (rd h2 d2) with
  | none => rw [e] at g; exact (show False from g).elim
  | some k =>
    rw [e] at g
    exact ⟨w2.F, w2.al, _, _, k, S2.sub, (r1.ext e2).vp S2, r2.vp S2, e, g w2 H2 _ Ext.refl S2 (.bl _)⟩
theorem rd_cmp {o : Cm} {a b : Ex} {τ : St} {H : Hp} {Q : VK} : tX fa XR c W H0 X (.cmp o a b) τ H Q → tOp (rC X fa (cmp o)) (Lb.tB fa XR c W H0 X a) (Lb.tB fa XR c W H0 X b) τ H Q := fun ⟨w, h, σ, S, SR, g⟩ =>
  ⟨w, h, σ, S, SR, Good.bind (f := fun x h1 => (evE c σ b h1).bind fun y h2 => R.of h2 ((cmp o (rd h2 x) (rd h2 y)).map D.bl)) g fun d h1 w1 H1 v _ e1 S1 r1 g1 =>
    ⟨w1, h1, σ, S1, SR.ext e1, Good.bind (f := fun y h2 => R.of h2 ((cmp o (rd h2 d) (rd h2 y)).map D.bl)) g1 fun d2 h2 w2 H2 v2 _ e2 S2 r2 g2 => ofC2 e2 S2 r1 r2 g2⟩⟩
theorem snd_cmp (ok : Cok T fa XR c n N sc sto X) {o : Cm} {a b : Ex} {l r : Expr} {p : Pos} (hm : isSet r = false) (ha : PE X l (Lb.tB fa XR c W H0 X a)) (hb : PE X r (Lb.tB fa XR c W H0 X b)) : PE X (.Compare l [cmc o] [r] p) (tX fa XR c W H0 X (.cmp o a b)) :=
  (pe_cmpR (op_cmpD o ok.un) ha hb (behind_of hm)).imp fun τ H Q q => rd_cmp q
theorem snd_cmpT (ok : Cok T fa XR c n N sc sto X) {o : Cm} {a b : Ex} {l r : Expr} {p : Pos} (hm : isSet r = false) (ha : PE X l (Lb.tB fa XR c W H0 X a)) (hb : PE X r (Lb.tB fa XR c W H0 X b)) : PT X (.Compare l [cmc o] [r] p) (tTest (tOp (rC X fa (cmp o)) (Lb.tB fa XR c W H0 X a) (Lb.tB fa XR c W H0 X b))) :=
  pt_cmpR (op_cmpD o ok.un) ha hb (behind_of hm)
/-- what a plain datum reads as -/
theorem rd_vp {w : Wd} {h : Heap} {H : Hp} {v : V} {d : D} (r : w.R X.K fa v d) : VP X.K fa w.F w.al H v d := .rep r
theorem rd_chain {o o' : Cm} {a b m : Ex} {τ : St} {H : Hp} {Q : VK} : tX fa XR c W H0 X (.chain o o' a b m) τ H Q → tChain (rC X fa (cmp o)) (rC X fa (cmp o')) (tE fa XR c W H0 X a) (tE fa XR c W H0 X b) (tE fa XR c W H0 X m) τ H Q := fun ⟨w, h, σ, S, SR, g⟩ => ⟨w, h, σ, S, SR, Good.bind (f := fun x h1 => (evE c σ b h1).bind fun y h2 => (R.of h2 (cmp o x y)).bind fun k h3 => match k with
    | false => R.ok (D.bl false) h3
    | true => (evE c σ m h3).bind fun z h4 => R.of h4 ((cmp o' y z).map D.bl)) g fun d h1 w1 H1 v _ e1 S1 r1 g1 =>
    ⟨w1, h1, σ, S1, SR.ext e1, Good.bind g1 fun d2 h2 w2 H2 v2 _ e2 S2 r2 g2 => by
      cases e : cmp o d d2 with
      | none => rw [e] at g2; exact (show False from g2).elim
      | some k =>
        rw [e] at g2
        refine ⟨w2.F, w2.al, d, d2, k, S2.sub, .rep (e2.R r1), .rep r2, e, k, rfl, ?_⟩
        cases k with
        | false => exact iteF (g2 w2 H2 _ Ext.refl S2 (.bl _))
        | true => exact iteT ⟨w2, h2, σ, S2, (SR.ext e1).ext e2, Good.bind (f := fun z h4 => R.of h4 ((cmp o' d2 z).map D.bl)) g2 fun d3 h3 w3 H3 v3 _ e3 S3 r3 g3 => by
          cases e' : cmp o' d2 d3 with
          | none => rw [e'] at g3; exact (show False from g3).elim
          | some k' =>
            rw [e'] at g3
            exact ⟨w3.F, w3.al, d2, d3, k', S3.sub, .rep (e3.R r2), .rep r3, e', g3 w3 H3 _ Ext.refl S3 (.bl _)⟩⟩⟩⟩
theorem chain_m {o o' : Cm} {x r : Expr} (hm : isSet r = false) (hx : isSet x = false) : lastMarks [cmc o, cmc o'] [x, r] = false := by
  have e1 := behind_of (op := cmc o) hx
  have e2 := behind_of (op := cmc o') hm
  simp [lastMarks, e1, e2]
theorem snd_chain (ok : Cok T fa XR c n N sc sto X) {o o' : Cm} {a b m : Ex} {l x r : Expr} {p : Pos} (hm : isSet r = false) (hx : isSet x = false) (ha : PE X l (tE fa XR c W H0 X a)) (hb : PE X x (tE fa XR c W H0 X b)) (he : PE X r (tE fa XR c W H0 X m)) : PE X (.Compare l [cmc o, cmc o'] [x, r] p) (tX fa XR c W H0 X (.chain o o' a b m)) :=
  (pe_chain (op_cmpD (fa := fa) o ok.un) (op_cmpD (fa := fa) o' ok.un) ha hb he (chain_m hm hx)).imp fun τ H Q q => rd_chain q
theorem snd_chainT (ok : Cok T fa XR c n N sc sto X) {o o' : Cm} {a b m : Ex} {l x r : Expr} {p : Pos} (hm : isSet r = false) (hx : isSet x = false) (ha : PE X l (tE fa XR c W H0 X a)) (hb : PE X x (tE fa XR c W H0 X b)) (he : PE X r (tE fa XR c W H0 X m)) : PT X (.Compare l [cmc o, cmc o'] [x, r] p) (tTest (tChain (rC X fa (cmp o)) (rC X fa (cmp o')) (tE fa XR c W H0 X a) (tE fa XR c W H0 X b) (tE fa XR c W H0 X m))) :=
  pt_chain (op_cmpD (fa := fa) o ok.un) (op_cmpD (fa := fa) o' ok.un) ha hb he (chain_m hm hx)
def rK (X : Cx) (fa : Fa) (nn : Bool) : R2 := fun x y H Q => ∃ (F : Hp) (al : List Addr) (k : Kc) (dx : D) (b : Bool), VP X.K fa F al H x dx ∧ y = kcV k ∧ isk k dx = some b ∧ Q (.bl (b != nn)) H
theorem isk_c {k : Kc} {kc : Const} {j : Nat} {p2 : Pos} (hk : ckK k kc = true) : PE X (.Constant kc j p2) (fun σ H Q => Q (kcV k) H) := by
  unfold ckK at hk
  split at hk
  · exact pe_non
  · exact pe_bl
  · exact pe_bl
  · cases hk
theorem rd_isk {nn : Bool} {a : Ex} {k : Kc} {τ : St} {H : Hp} {Q : VK} : tX fa XR c W H0 X (.isk nn a k) τ H Q → tOp (rK X fa nn) (Lb.tB fa XR c W H0 X a) (fun σ H Q => Q (kcV k) H) τ H Q := fun ⟨w, h, σ, S, SR, g⟩ =>
  ⟨w, h, σ, S, SR, Good.bind (f := fun x h1 => R.of h1 ((isk k x).map fun b => D.bl (b != nn))) g fun d h1 w1 H1 v _ e1 S1 r1 g1 => by
    cases e : isk k d with
    | none => rw [e] at g1; exact (show False from g1).elim
    | some b =>
      rw [e] at g1
      have vp : VP X.K fa w1.F w1.al H1 v d := by
        rcases r1 with r1 | ⟨p, vs, xs, rfl, rfl, z1, z2, _⟩
        · exact .rep r1
        · exact .lst z1 z2
      exact ⟨w1.F, w1.al, k, d, b, vp, rfl, e, g1 w1 H1 _ Ext.refl S1 (.bl _)⟩⟩
theorem snd_isk {nn : Bool} {a : Ex} {k : Kc} {l : Expr} {kc : Const} {j : Nat} {p p2 : Pos} (hk : ckK k kc = true) (ha : PE X l (Lb.tB fa XR c W H0 X a)) : PE X (.Compare l [if nn then .IsNot else .Is] [.Constant kc j p2] p) (tX fa XR c W H0 X (.isk nn a k)) :=
  (pe_cmpR (op_isk (fa := fa) nn) ha (isk_c hk) (by cases nn <;> rfl)).imp fun τ H Q q => rd_isk q
theorem snd_iskT {nn : Bool} {a : Ex} {k : Kc} {l : Expr} {kc : Const} {j : Nat} {p p2 : Pos} (hk : ckK k kc = true) (ha : PE X l (Lb.tB fa XR c W H0 X a)) : PT X (.Compare l [if nn then .IsNot else .Is] [.Constant kc j p2] p) (tTest (tOp (rK X fa nn) (Lb.tB fa XR c W H0 X a) (fun σ H Q => Q (kcV k) H))) :=
  pt_cmpR (op_isk (fa := fa) nn) ha (isk_c hk) (by cases nn <;> rfl)
theorem plainIx {s : Expr} (h : isSlice s = false) : PlainIx s := by
  intro o i
  cases s <;> first | rfl | (simp [isSlice] at h; done)
theorem snd_ix (ok : Cok T fa XR c n N sc sto X) {a i : Ex} {v s : Expr} {p : Pos} (hs : isSlice s = false) (ha : PE X v (tB fa XR c W H0 X a)) (hb : PE X s (tE fa XR c W H0 X i)) : PE X (.Subscript v s p) (tX fa XR c W H0 X (.ix a i)) :=
  (pe_ix (ix_itemD (fa := fa) (by have := ok.un; omega)) ha hb (plainIx hs)).imp fun τ H Q ⟨w, h, σ, S, SR, g⟩ => ⟨w, h, σ, S, SR, Good.bind (f := fun x h1 => (evE c σ i h1).bind fun y h2 => .of h2 (item (rd h2 x) y)) g fun d h1 w1 H1 v _ e1 S1 r1 g1 =>
    ⟨w1, h1, σ, S1, SR.ext e1, Good.bind (f := fun y h2 => .of h2 (item (rd h2 d) y)) g1 fun d2 h2 w2 H2 v2 _ e2 S2 r2 g2 => by
      cases e : item (rd h2 d) d2 with
      | none => rw [e] at g2; exact (show False from g2).elim
      | some z =>
        rw [e] at g2
        exact ⟨w2.F, w2.al, _, _, z, S2.sub, (r1.ext e2).vp S2, .rep r2, e, fun v3 r3 => g2 w2 H2 v3 Ext.refl S2 r3⟩⟩⟩
/-- a slice's end -/
def tP (fa : Fa) (XR : XRel) (c : Cl) (W : WX) (H0 : Hp) (X : Cx) (m : Po) : TO := tR X.K fa XR W H0 (fun _ _ _ (a b : Option Int) => a = b) fun σ h => evP c σ m h
theorem snd_po0 : PO X none (tP fa XR c W H0 X .no) := po_none.imp fun τ H Q ⟨w, h, σ, S, SR, g⟩ => g w H _ Ext.refl S rfl
theorem snd_po1 {a : Ex} {e : Expr} (ha : PE X e (tE fa XR c W H0 X a)) : PO X (some e) (tP fa XR c W H0 X (.at a)) :=
  (po_some ha).imp fun τ H Q ⟨w, h, σ, S, SR, g⟩ => ⟨w, h, σ, S, SR, Good.bind (f := fun (x : D) h1 => match x with
    | D.int i => R.ok (some i) h1
    | _ => R.bad) g fun d h1 w1 H1 v _ e1 S1 r1 g1 => by
      cases d with
      | int i => cases r1; exact ⟨_, rfl, g1 w1 H1 _ Ext.refl S1 rfl⟩
      | _ => exact (show False from g1).elim⟩
theorem snd_slice {a : Ex} {lo hi : Po} {v : Expr} {l u : Option Expr} {p p2 : Pos} (ha : PE X v (tB fa XR c W H0 X a)) (hl : PO X l (tP fa XR c W H0 X lo)) (hu : PO X u (tP fa XR c W H0 X hi)) : PE X (.Subscript v (.Slice l u none p2) p) (tX fa XR c W H0 X (.slice a lo hi)) :=
  (pe_slice (sl_cut (fa := fa)) ha hl hu).imp fun τ H Q ⟨w, h, σ, S, SR, g⟩ => ⟨w, h, σ, S, SR, Good.bind (f := fun x h1 => (evP c σ lo h1).bind fun y h2 => (evP c σ hi h2).bind fun z h3 => .of h3 (slice y z (rd h3 x))) g fun d h1 w1 H1 v _ e1 S1 r1 g1 =>
    ⟨w1, h1, σ, S1, SR.ext e1, Good.bind (f := fun y h2 => (evP c σ hi h2).bind fun z h3 => .of h3 (slice y z (rd h3 d))) g1 fun d2 h2 w2 H2 v2 _ e2 S2 r2 g2 =>
      ⟨w2, h2, σ, S2, (SR.ext e1).ext e2, Good.bind (f := fun z h3 => .of h3 (slice d2 z (rd h3 d))) g2 fun d3 h3 w3 H3 v3 _ e3 S3 r3 g3 => by
        cases r2; cases r3
        cases e : slice d2 d3 (rd h3 d) with
        | none => rw [e] at g3; exact (show False from g3).elim
        | some z =>
          rw [e] at g3
          refine ⟨w3.F, w3.al, _, z, S3.sub, ((r1.ext e2).ext e3).vp S3, e, fun v4 H4 res => ?_⟩
          obtain ⟨w4, e4, S4, n4⟩ := res.toN S3 (e1.trans (e2.trans e3))
          exact g3 w4 H4 v4 e4 S4 n4⟩⟩⟩
end
end Lb
end
section
set_option Elab.async false
set_option linter.all false
set_option maxRecDepth 100000
namespace Lb
open PySem PySem.Spec PyProof.Rows L2
inductive RelBL (K : PySem.W.Frag) (fa : Fa) (w : Wd) (H : Hp) : List V → List D → Prop
  | nil : RelBL K fa w H [] []
  | cons {v : V} {d : D} {vs : List V} {ds : List D} : RelB K fa w H v d → RelBL K fa w H vs ds → RelBL K fa w H (v :: vs) (d :: ds)
section
variable {fa : Fa} {XR : XRel} {c : Cl} {W : WX} {H0 : Hp} {X : Cx} {T : Tb} {n : Nat} {N : List Str} {sc : Scope} {sto : Sto}
theorem RelBL.vp {K : PySem.W.Frag} {w : Wd} {h : Heap} {H : Hp} (S : Sim K fa w h H) : ∀ {vs : List V} {ds : List D}, RelBL K fa w H vs ds → VPL K fa w.F w.al H vs (ds.map (rd h))
  | _, _, .nil => .nil
  | _, _, .cons r t => .cons (r.vp S) (RelBL.vp S t)
def tEs (fa : Fa) (XR : XRel) (c : Cl) (W : WX) (H0 : Hp) (X : Cx) (es : Exs) : TA := tR X.K fa XR W H0 (fun _ w' _ vs ds => w'.RL X.K fa vs ds) fun σ h => evEs c σ es h
def tBs (fa : Fa) (XR : XRel) (c : Cl) (W : WX) (H0 : Hp) (X : Cx) (es : Exs) : TA := tR X.K fa XR W H0 (fun _ w' H' vs ds => RelBL X.K fa w' H' vs ds) fun σ h => evEs c σ es h
theorem star_ok {e : Expr} {es : List Expr} {env : PySem.Env} (h : unstar e = true) : starEach (e :: es) env = (false, eval e env) :: starEach es env := by
  cases e <;> first | rfl | (simp [unstar] at h; done)
theorem stars_ok {pos : Pos} {env : PySem.Env} : ∀ {es : List Expr}, es.all unstar = true → (backTo pos (starEach es env)).any (·.1) = false
  | [], _ => rfl
  | e :: es, h => by
    rw [List.all_cons, Bool.and_eq_true] at h
    rw [star_ok h.1]
    show (false || (backTo pos (starEach es env)).any (·.1)) = false
    rw [stars_ok h.2]
    rfl
theorem snd_es0 : PA X [] (tEs fa XR c W H0 X .nil) := pa_nil.imp fun τ H Q ⟨w, h, σ, S, SR, g⟩ => g w H _ Ext.refl S .nil
theorem snd_bs0 : PA X [] (tBs fa XR c W H0 X .nil) := pa_nil.imp fun τ H Q ⟨w, h, σ, S, SR, g⟩ => g w H _ Ext.refl S .nil
theorem snd_es1 {a : Ex} {r : Exs} {e : Expr} {es : List Expr} (hu : unstar e = true) (ha : PE X e (tE fa XR c W H0 X a)) (hr : PA X es (tEs fa XR c W H0 X r)) : PA X (e :: es) (tEs fa XR c W H0 X (.cons a r)) :=
  (pa_cons ha hr (star_ok hu)).imp fun τ H Q ⟨w, h, σ, S, SR, g⟩ => ⟨w, h, σ, S, SR, Good.bind (f := fun x h1 => (evEs c σ r h1).bind fun xs h2 => R.ok (x :: xs) h2) g fun d h1 w1 H1 v _ e1 S1 r1 g1 =>
    ⟨w1, h1, σ, S1, SR.ext e1, Good.bind (f := fun xs h2 => R.ok (d :: xs) h2) g1 fun ds h2 w2 H2 vs _ e2 S2 r2 g2 => g2 w2 H2 _ Ext.refl S2 (.cons (e2.R r1) r2)⟩⟩
theorem snd_bs1 {a : Ex} {r : Exs} {e : Expr} {es : List Expr} (hu : unstar e = true) (ha : PE X e (Lb.tB fa XR c W H0 X a)) (hr : PA X es (tBs fa XR c W H0 X r)) : PA X (e :: es) (tBs fa XR c W H0 X (.cons a r)) :=
  (pa_cons ha hr (star_ok hu)).imp fun τ H Q ⟨w, h, σ, S, SR, g⟩ => ⟨w, h, σ, S, SR, Good.bind (f := fun x h1 => (evEs c σ r h1).bind fun xs h2 => R.ok (x :: xs) h2) g fun d h1 w1 H1 v _ e1 S1 r1 g1 =>
    ⟨w1, h1, σ, S1, SR.ext e1, Good.bind (f := fun xs h2 => R.ok (d :: xs) h2) g1 fun ds h2 w2 H2 vs _ e2 S2 r2 g2 => g2 w2 H2 _ Ext.refl S2 (.cons (r1.ext e2) r2)⟩⟩
theorem snd_tup {es : Exs} {l : List Expr} {k : Nat} {p : Pos} (ha : PA X l (tEs fa XR c W H0 X es)) : PE X (.Tuple l k p) (tX fa XR c W H0 X (.tup es)) :=
  (pe_tup ha).imp fun τ H Q ⟨w, h, σ, S, SR, g⟩ => ⟨w, h, σ, S, SR, Good.bind (f := fun ds h1 => if ds.length ≤ sz then R.ok (D.tup ds) h1 else R.bad) g fun ds h1 w1 H1 vs _ e1 S1 r1 g1 => by
    by_cases c : ds.length ≤ sz
    · rw [if_pos c] at g1
      refine ⟨by rw [r1.length]; exact szl c, fun p hp => ?_⟩
      have E := Ext.add (o := .tup vs) hp S1
      exact g1 _ _ _ E (S1.add hp) (.tup (.inl (.inl (show upd w1.F p (.tup vs) p = _ from upd_same))) (E.RL r1))
    · rw [if_neg c] at g1; exact (show False from g1).elim⟩
theorem snd_lst {es : Exs} {l : List Expr} {p : Pos} (ha : PA X l (tEs fa XR c W H0 X es)) : PE X (.List l p) (tX fa XR c W H0 X (.lst es)) :=
  (pe_lst ha).imp fun τ H Q ⟨w, h, σ, S, SR, g⟩ => ⟨w, h, σ, S, SR, Good.bind (f := fun ds h1 => if ds.length ≤ sz then R.ok (D.lst ds) h1 else R.bad) g fun ds h1 w1 H1 vs _ e1 S1 r1 g1 => by
    by_cases c : ds.length ≤ sz
    · rw [if_pos c] at g1
      refine ⟨by rw [r1.length]; exact szl c, fun p hp => ?_⟩
      obtain ⟨w3, e3, S3, n3⟩ := (Res.lst (K := X.K) (fa := fa) hp r1).toN S1 e1
      exact g1 w3 _ _ e3 S3 n3
    · rw [if_neg c] at g1; exact (show False from g1).elim⟩
theorem snd_call (ok : Cok T fa XR c n N sc sto X) (tk : Takes X W) {f : Nat} {es : Exs} {x : Str} {p p2 : Pos} {y : Expr} {r : List Expr} (h1 : T.fns.lookup f = some x) (h2 : glob sc x = true) (h3 : okName x = true) (hs : (y :: r).all unstar = true)
    (ha : PA X (y :: r) (tEs fa XR c W H0 X es)) : PE X (.Call (.Name x p) (y :: r) [] p2) (tX fa XR c W H0 X (.call f es)) := by
  obtain ⟨a, fd, ps, k1, k2, k3, k4⟩ := ok.g.fns f x h1
  rw [List.all_cons, Bool.and_eq_true] at hs
  refine (pe_callS (E := WE W) k4 ok.room (glob_of ok.sc h2) k1 k2 k3 (passAt tk) ha (okName_of h3).1 (star_ok hs.1) (stars_ok hs.2)).imp fun τ H Q ⟨w, h, σ, S, SR, g⟩ => ⟨w, h, σ, S, SR, Good.bind (f := fun ds h1 => c f ds h1) g fun ds h1 w1 H1 vs _ e1 S1 r1 g1 => ?_⟩
  exact ⟨w1, h1, ds, S1, r1, g1⟩
theorem blt_mem (b : B) : bltName b ∈ bltNames := by cases b <;> decide
theorem snd_blt (ok : Cok T fa XR c n N sc sto X) {b : B} {es : Exs} {x : Str} {p p2 : Pos} {y : Expr} {r : List Expr} (h1 : bltHas b = true) (h2 : x = bltName b) (h3 : glob sc x = true) (hs : (y :: r).all unstar = true)
    (ha : PA X (y :: r) (tBs fa XR c W H0 X es)) : PE X (.Call (.Name x p) (y :: r) [] p2) (tX fa XR c W H0 X (.blt b es)) := by
  rw [List.all_cons, Bool.and_eq_true] at hs
  have hg := glob_of ok.sc h3
  have hm : X.mg x = none := ok.g.free x (by rw [h2]; exact blt_mem b)
  have hc := call_blt (X := X) (fa := fa) b h1 ok.calm
  have key : PE X (.Call (.Name x p) (y :: r) [] p2) (tCB (rBlt X fa (blt b)) (tBs fa XR c W H0 X es)) := by
    subst h2
    have B1 : ∀ (x : Str) (id : String), CallR X (.builtin id) (rBlt X fa (blt b)) → Gl X x → X.mg x = none → bootBuiltins x = some (.builtin id) → x ≠ "__name__" → (x == ("__debug__" : Str)) = false → PE X (.Call (.Name x p) (y :: r) [] p2) (tCB (rBlt X fa (blt b)) (tBs fa XR c W H0 X es)) :=
      fun x id hc hg hm hv hn hd => pe_callB hc hg hm hv ha hn hd (star_ok hs.1) (stars_ok hs.2)
    have B2 : ∀ (x : Str) (id : String), CallR X (.type id) (rBlt X fa (blt b)) → Gl X x → X.mg x = none → bootBuiltins x = some (.type id) → x ≠ "__name__" → (x == ("__debug__" : Str)) = false → PE X (.Call (.Name x p) (y :: r) [] p2) (tCB (rBlt X fa (blt b)) (tBs fa XR c W H0 X es)) :=
      fun x id hc hg hm hv hn hd => pe_callTy hc hg hm hv ha hn hd (star_ok hs.1) (stars_ok hs.2)
    cases b with
    | len => exact B1 _ _ hc hg hm rfl (by decide) (by decide)
    | tup => exact B2 _ _ hc hg hm rfl (by decide) (by decide)
    | lst => exact B2 _ _ hc hg hm rfl (by decide) (by decide)
    | all => exact B1 _ _ hc hg hm rfl (by decide) (by decide)
    | any => exact B1 _ _ hc hg hm rfl (by decide) (by decide)
    | sum => exact B1 _ _ hc hg hm rfl (by decide) (by decide)
    | min2 => exact B1 _ _ hc hg hm rfl (by decide) (by decide)
    | max2 => exact B1 _ _ hc hg hm rfl (by decide) (by decide)
    | abs => exact B1 _ _ hc hg hm rfl (by decide) (by decide)
    | int => exact B2 _ _ hc hg hm rfl (by decide) (by decide)
    | _ => cases h1
  refine key.imp fun τ H Q ⟨w, h, σ, S, SR, g⟩ => ⟨w, h, σ, S, SR, Good.bind (f := fun ds h1 => R.of h1 (blt b (ds.map (rd h1)))) g fun ds h1 w1 H1 vs _ e1 S1 r1 g1 => ?_⟩
  cases e : blt b (ds.map (rd h1)) with
  | none => rw [e] at g1; exact (show False from g1).elim
  | some z =>
    rw [e] at g1
    refine ⟨w1.F, w1.al, _, z, S1.sub, RelBL.vp S1 r1, e, fun v3 H3 res => ?_⟩
    obtain ⟨w3, e3, S3, n3⟩ := res.toN S1 e1
    exact g1 w3 H3 v3 e3 S3 n3
theorem ty_mem (t : Ty) : tyName t ∈ bltNames := by cases t <;> decide
theorem snd_isi (ok : Cok T fa XR c n N sc sto X) {t : Ty} {a : Ex} {x y : Str} {p p2 p3 : Pos} {e : Expr} (h1 : x = ("isinstance" : Str)) (h2 : glob sc x = true) (h3 : y = tyName t) (h4 : glob sc y = true) (hs : unstar e = true)
    (ha : PE X e (Lb.tB fa XR c W H0 X a)) : PE X (.Call (.Name x p) [e, .Name y p3] [] p2) (tX fa XR c W H0 X (.isi a t)) := by
  subst h1 h3
  have hy : PE X (.Name (tyName t) p3) (tC (.ty (tyS t))) := by
    cases t <;> exact pe_bltn (glob_of ok.sc h4) (ok.g.free _ (by decide)) rfl rfl (by decide) (by decide)
  refine (pe_callB (call_isTy (fa := fa) t) (glob_of ok.sc h2) (ok.g.free _ (by decide)) rfl (pa_cons ha (pa_cons hy pa_nil) (star_ok hs)) (by decide) (by decide) (star_ok hs) rfl).imp fun τ H Q ⟨w, h, σ, S, SR, g⟩ =>
    ⟨w, h, σ, S, SR, Good.bind (f := fun x h1 => R.of h1 ((isTy (rd h1 x) t).map D.bl)) g fun d h1 w1 H1 v _ e1 S1 r1 g1 => ?_⟩
  cases e : isTy (rd h1 d) t with
  | none => rw [e] at g1; exact (show False from g1).elim
  | some b =>
    rw [e] at g1
    exact ⟨w1.F, w1.al, v, _, b, rfl, S1.sub, r1.vp S1, e, g1 w1 H1 _ Ext.refl S1 (.bl _)⟩
theorem attr_ok {o : Expr} {nm : Str} {env : PySem.Env} (h : noCall0 o = true) : attributeBase o nm env (eval o env) = eval o env := by
  unfold attributeBase
  split
  · simp [noCall0] at h
  · rfl
theorem snd_mth {m : M} {o a : Ex} {nm : Str} {e x : Expr} {ap cp : Pos} (hm : mthHas m = true) (h1 : nm = mthName m) (h2 : (ap.endLine == cp.line) = true) (h3 : noCall0 e = true) (hs : unstar x = true)
    (ho : PE X e (Lb.tB fa XR c W H0 X o)) (ha : PE X x (Lb.tB fa XR c W H0 X a)) : PE X (.Call (.Attribute e nm ap) [x] [] cp) (tX fa XR c W H0 X (.mth m o (.cons a .nil))) := by
  have key : PE X (.Call (.Attribute e nm ap) [x] [] cp) (tM1 (rMth X fa m) (Lb.tB fa XR c W H0 X o) (Lb.tB fa XR c W H0 X a)) := by
    subst h1
    have rule := mt_mth (X := X) (fa := fa) m hm
    cases m with
    | join => exact pe_m1 F.slot_str_join F.type_str_join rule ho ha (star_ok hs) (attr_ok h3) h2
    | split => exact pe_m1 F.slot_str_split F.type_str_split rule ho ha (star_ok hs) (attr_ok h3) h2
    | starts => exact pe_m1 F.slot_str_startswith F.type_str_startswith rule ho ha (star_ok hs) (attr_ok h3) h2
    | _ => cases hm
  refine key.imp fun τ H Q ⟨w, h, σ, S, SR, g⟩ => ⟨w, h, σ, S, SR, Good.bind (f := fun (x : D) h1 => match x with
    | D.str t => (evEs c σ (.cons a .nil) h1).bind fun ds h2 => R.of h2 (mth m (D.str t) (ds.map (rd h2)))
    | _ => R.bad) g fun d h1 w1 H1 v _ e1 S1 r1 g1 => ?_⟩
  cases d with
  | str t =>
    have hv : v = .str (toS t) := by
      rcases r1 with r1 | ⟨_, _, _, _, z, _⟩
      · cases r1; rfl
      · cases z
    subst hv
    refine ⟨⟨_, rfl⟩, w1, h1, σ, S1, SR.ext e1, ?_⟩
    have g1 : Good X.K fa (RelN X.K fa H) XR W τ w1 H1 (((evE c σ a h1).bind fun x h2 => R.ok [x] h2).bind fun ds h2 => R.of h2 (mth m (D.str t) (ds.map (rd h2)))) Q := g1
    show Good X.K fa (RelB X.K fa) XR W τ w1 H1 (evE c σ a h1) _
    cases ea : evE c σ a h1 with
    | bad => rw [ea] at g1; exact (show False from g1).elim
    | ex k p h' => rw [ea] at g1; exact g1
    | ok d2 h2 =>
      rw [ea] at g1
      intro w2 H2 v2 e2 S2 r2
      have g2 := Good.ext g1 e2
      have g2 : Good X.K fa (RelN X.K fa H) XR W τ w2 H2 (R.of h2 (mth m (D.str t) ([d2].map (rd h2)))) Q := g2
      cases e : mth m (D.str t) ([d2].map (rd h2)) with
      | none => rw [e] at g2; exact (show False from g2).elim
      | some z =>
        rw [e] at g2
        refine ⟨w2.F, w2.al, .str t, [rd h2 d2], z, S2.sub, .rep (.str t), .cons (r2.vp S2) .nil, e, fun v3 H3 res => ?_⟩
        obtain ⟨w3, e3, S3, n3⟩ := res.toN S2 (e1.trans e2)
        exact g2 w3 H3 v3 e3 S3 n3
  | _ => exact (show False from g1).elim
end
end Lb
end
section
set_option Elab.async false
set_option linter.all false
set_option maxRecDepth 100000
namespace Lb
open PySem PySem.Spec PyProof.Rows L2

section
variable {fa : Fa} {XR : XRel} {c : Cl} {W : WX} {H0 : Hp} {X : Cx} {T : Tb} {n : Nat} {N : List Str} {sc : Scope} {sto : Sto}
theorem wipe_set (τ : St) {i : Nat} {o : Option V} : ∀ {vs : List Nat}, i ∈ vs → L2.wipe (τ.set i o) vs = L2.wipe τ vs
  | v :: vs, h => by
    by_cases e : i ∈ vs
    · show (L2.wipe (τ.set i o) vs).set v none = (L2.wipe τ vs).set v none
      rw [wipe_set τ e]
    · have e2 : i = v := by
        rcases List.mem_cons.mp h with q | q
        · exact q
        · exact absurd q e
      subst e2
      show (L2.wipe (τ.set i o) vs).set i none = (L2.wipe τ vs).set i none
      have c : ∀ (us : List Nat), i ∉ us → L2.wipe (τ.set i o) us = (L2.wipe τ us).set i o := fun us hu => by
        induction us with
        | nil => rfl
        | cons u us ih =>
          show (L2.wipe (τ.set i o) us).set u none = ((L2.wipe τ us).set u none).set i o
          rw [ih (fun m => hu (List.mem_cons_of_mem _ m))]
          exact List.set_comm _ _ (fun z => hu (by rw [z]; exact List.mem_cons_self))
      rw [c vs e, List.set_set]
/-- a target is set -/
def tG (fa : Fa) (H0 : Hp) (X : Cx) (tg : Tg) : TG := fun v τ H Q => ∃ (w : Wd) (h : Heap) (σ σ' : Fr) (d : D), Sim X.K fa w h H ∧ SRep X.K fa H0 w H σ τ ∧ w.R X.K fa v d ∧ tg.set d σ = some σ' ∧
  ∀ τ', SRep X.K fa H0 w H σ' τ' → (∀ us, (∀ i ∈ tg.slots, i ∈ us) → L2.wipe τ' us = L2.wipe τ us) → Q τ' H
theorem _root_.L2.PG.imp {X : Cx} {e : Expr} {t t' : TG} (h : PG X e t) (i : ∀ v σ H Q, t' v σ H Q → t v σ H Q) : PG X e t' := ⟨fun pins s σ H v u Q I r q => h.run pins s σ H v u Q I r (i v σ H Q q)⟩
theorem _root_.L2.PGs.imp {X : Cx} {e : List Expr} {t t' : TGs} (h : PGs X e t) (i : ∀ v σ H Q, t' v σ H Q → t v σ H Q) : PGs X e t' := ⟨fun pins s σ H v u Q I r q => h.run pins s σ H v u Q I r (i v σ H Q q)⟩
theorem snd_nm (ok : Cok T fa XR c n N sc sto X) {i : Nat} {x : Str} {p : Pos} (h1 : N[i]? = some x) (h2 : sto x = true) : PG X (.Name x p) (tG fa H0 X (.nm i)) := by
  obtain ⟨l, f⟩ := ok.sto x h2
  refine (pg_name ok.nd (by rw [ok.N]; exact h1) l f).imp fun v τ H Q ⟨w, h, σ, σ', d, S, SR, r, e, q⟩ => ?_
  cases e
  exact q _ (SR.setv r) fun us hu => wipe_set τ (hu i (List.mem_singleton.mpr rfl))
/-- names, one after another -/
def tGs (fa : Fa) (H0 : Hp) (X : Cx) (is : List Nat) : TGs := fun vs τ H Q => ∃ (w : Wd) (h : Heap) (σ σ' : Fr) (ds : List D), Sim X.K fa w h H ∧ SRep X.K fa H0 w H σ τ ∧ w.RL X.K fa vs ds ∧ setAll is ds σ = some σ' ∧
  ∀ τ', SRep X.K fa H0 w H σ' τ' → (∀ us, (∀ i ∈ is, i ∈ us) → L2.wipe τ' us = L2.wipe τ us) → Q τ' H
def nmOk (N : List Str) (sto : Sto) (p : Nat × Expr) : Bool := match p.2 with
  | .Name x _ => decide (N[p.1]? = some x) && sto x
  | _ => false
theorem snd_nms (ok : Cok T fa XR c n N sc sto X) : ∀ {is : List Nat} {es : List Expr}, is.length = es.length → (is.zip es).all (nmOk N sto) = true → PGs X es (tGs fa H0 X is)
  | [], [], _, _ => pgs_nil.imp fun vs τ H Q ⟨w, h, σ, σ', ds, S, SR, r, e, q⟩ => by
    cases r with
    | nil => cases e; exact ⟨rfl, q τ SR fun _ _ => rfl⟩
    | cons => cases e
  | i :: is, y :: es, hl, hz => by
    rw [List.zip_cons_cons, List.all_cons, Bool.and_eq_true] at hz
    obtain ⟨h1, h2⟩ := hz
    have hd : ∃ x p, y = .Name x p ∧ N[i]? = some x ∧ sto x = true := by
      unfold nmOk at h1
      split at h1
      · rename_i x p e
        simp only [Bool.and_eq_true, decide_eq_true_eq] at h1
        exact ⟨x, p, e, h1.1, h1.2⟩
      · cases h1
    obtain ⟨x, p, rfl, g1, g2⟩ := hd
    refine (pgs_cons (snd_nm (H0 := H0) ok g1 g2) (snd_nms ok (by simpa using hl) h2)).imp fun vs τ H Q ⟨w, h, σ, σ', ds, S, SR, r, e, q⟩ => ?_
    cases r with
    | nil => cases e
    | cons r rr =>
      refine ⟨_, _, rfl, w, h, σ, _, _, S, SR, r, rfl, fun τ1 SR1 hw => ⟨w, h, _, σ', _, S, SR1, rr, e, fun τ2 SR2 hw2 => q τ2 SR2 fun us hu => ?_⟩⟩
      rw [hw2 us fun j hj => hu j (List.mem_cons_of_mem _ hj), hw us fun j hj => by
        rw [List.mem_singleton.mp hj]
        exact hu i List.mem_cons_self]
theorem assign_len {env : PySem.Env} (a : List Expr) (h : ∀ e ∈ a, unstar e = true) : (assignEach a env).length = a.length ∧ (assignEach a env).findIdx? (·.1) = none := by
  induction a with
  | nil => exact ⟨rfl, rfl⟩
  | cons e es ih =>
    obtain ⟨i1, i2⟩ := ih fun x hx => h x (List.mem_cons_of_mem _ hx)
    have hu := h e List.mem_cons_self
    have st : assignEach (e :: es) env = (false, assign e env) :: assignEach es env := by
      cases e <;> first | rfl | (simp [unstar] at hu; done)
    rw [st]
    refine ⟨by rw [List.length_cons, i1, List.length_cons], ?_⟩
    rw [List.findIdx?_cons]
    simp [i2]
theorem assign_map {env : PySem.Env} {e : Expr} {es : List Expr} (hu : unstar e = true) : (assignEach (e :: es) env).map (·.2) = assign e env :: (assignEach es env).map (·.2) := by
  cases e <;> first | rfl | (simp [unstar] at hu; done)
theorem ckTg_star {tg : Tg} {e : Expr} (h : ckTg N sto tg e = true) : unstar e = true := by
  cases e <;> first | rfl | (cases tg <;> simp [ckTg] at h; done)
theorem zip_mem : ∀ {is : List Nat} {es : List Expr}, is.length = es.length → ∀ e ∈ es, ∃ i, (i, e) ∈ is.zip es
  | [], [], _, _, h => nomatch h
  | i :: is, y :: es, hl, e, h => by
    rcases List.mem_cons.mp h with q | q
    · subst q; exact ⟨i, List.mem_cons_self⟩
    · obtain ⟨j, hj⟩ := zip_mem (by simpa using hl) e q
      exact ⟨j, List.mem_cons_of_mem _ hj⟩
theorem snd_tg (ok : Cok T fa XR c n N sc sto X) : ∀ {tg : Tg} {e : Expr}, ckTg N sto tg e = true → PG X e (tG fa H0 X tg)
  | .nm i, .Name x p, h => by
    have h : (decide (N[i]? = some x) && sto x) = true := h
    simp only [Bool.and_eq_true, decide_eq_true_eq] at h
    exact snd_nm ok h.1 h.2
  | .tu2 a b, .Tuple [x, y] k p, h => by
    have h : (ckTg N sto a x && ckTg N sto b y) = true := h
    simp only [Bool.and_eq_true] at h
    obtain ⟨h1, h2⟩ := h
    have l := assign_len (env := X.env) [x, y] (fun e he => by
      rcases List.mem_cons.mp he with q | q
      · subst q; exact ckTg_star h1
      · rw [List.mem_singleton.mp q]; exact ckTg_star h2)
    refine (pg_tup ok.calm (pgs_cons (snd_tg ok h1) (pgs_cons (snd_tg ok h2) pgs_nil (assign_map (ckTg_star h2))) (assign_map (ckTg_star h1))) l.1 l.2).imp fun v τ H Q ⟨w, h, σ, σ', d, S, SR, r, e, q⟩ => ?_
    cases d with
    | tup ds =>
      match ds, r, e with
      | [d1, d2], r, e =>
        have e : (a.set d1 σ).bind (b.set d2) = some σ' := e
        obtain ⟨σ1, e1, e2⟩ := Option.bind_eq_some_iff.mp e
        cases r with
        | tup r1 rr =>
          cases rr with
          | cons q1 rr =>
            cases rr with
            | cons q2 rr =>
              cases rr
              refine ⟨_, _, rfl, sqT_mono S.sub r1, rfl, _, _, rfl, w, h, σ, σ1, d1, S, SR, q1, e1, fun τ1 SR1 hw1 => ⟨_, _, rfl, w, h, σ1, σ', d2, S, SR1, q2, e2, fun τ2 SR2 hw2 => ⟨rfl, q τ2 SR2 fun us hu => ?_⟩⟩⟩
              rw [hw2 us fun i hi => hu i (List.mem_append_right _ hi), hw1 us fun i hi => hu i (List.mem_append_left _ hi)]
    | _ => cases e
  | .tu is, .Tuple es k p, h => by
    have h : (decide (is.length = es.length) && (is.zip es).all (nmOk N sto)) = true := h
    simp only [Bool.and_eq_true, decide_eq_true_eq] at h
    obtain ⟨h1, h2⟩ := h
    have l := assign_len (env := X.env) es (fun e he => by
      obtain ⟨i, hi⟩ := zip_mem h1 e he
      have z := List.all_eq_true.mp h2 _ hi
      unfold nmOk at z
      split at z
      · rename_i e2
        have e2 : e = _ := e2
        rw [e2]; rfl
      · cases z)
    refine (pg_tup ok.calm (snd_nms (H0 := H0) ok h1 h2) l.1 l.2).imp fun v τ H Q ⟨w, h, σ, σ', d, S, SR, r, e, q⟩ => ?_
    cases d with
    | tup ds =>
      have e : setAll is ds σ = some σ' := e
      have hl : ∀ {is : List Nat} {ds : List D} {σ : Fr}, setAll is ds σ = some σ' → is.length = ds.length := by
        intro is
        induction is with
        | nil => intro ds σ e; cases ds with
          | nil => rfl
          | cons => cases e
        | cons i is ih => intro ds σ e; cases ds with
          | nil => cases e
          | cons d ds => simp only [List.length_cons]; rw [ih e]
      cases r with
      | tup r1 rr =>
        exact ⟨_, _, rfl, sqT_mono S.sub r1, by rw [rr.length, ← hl e, h1], w, h, σ, σ', ds, S, SR, rr, e, q⟩
    | _ => cases e
  | .nm i, .Tuple .., h => by simp [ckTg] at h

structure Le (w w' : Wd) : Prop where
  F : ∀ p o, w.F p = some o → w'.F p = some o
  al : ∀ (i : Nat) a, w.al[i]? = some a → w'.al[i]? = some a
theorem Ext.le {w w' : Wd} {H H' : Hp} (e : Ext w H w' H') : Le w w' := ⟨e.F, e.al⟩
theorem Le.trans {w w1 w2 : Wd} (a : Le w w1) (b : Le w1 w2) : Le w w2 := ⟨fun p o h => b.F p o (a.F p o h), fun i p h => b.al i p (a.al i p h)⟩
theorem Le.refl {w : Wd} : Le w w := ⟨fun _ _ h => h, fun _ _ h => h⟩
structure Wk (K : PySem.W.Frag) (fa : Fa) (w : Wd) (J : L2.It) (ds : List D) : Prop where
  go : ∀ w' h' H', Sim K fa w' h' H' → Le w w' → ∀ i, i < ds.length → J.go i H'
  stop : ∀ w' h' H', Sim K fa w' h' H' → Le w w' → J.stop ds.length H'
  yld : ∀ w' h' H' i x H'' d, Sim K fa w' h' H' → Le w w' → ds[i]? = some d → J.yld i H' x H'' → ∃ w'', Ext w' H' w'' H'' ∧ Sim K fa w'' h' H'' ∧ w''.R K fa x d
/-- the walk's reading -/
def tI (fa : Fa) (XR : XRel) (c : Cl) (W : WX) (H0 : Hp) (X : Cx) (m : Lb.It) : TI := tR X.K fa XR W H0 (fun _ w' _ J ds => Wk X.K fa w' J ds) fun σ h => evI c σ m h
theorem _root_.L2.PI.imp {X : Cx} {tg e : Expr} {t t' : TI} (h : PI X tg e t) (i : ∀ σ H Q, t' σ H Q → t σ H Q) : PI X tg e t' := ⟨fun pins s σ H Q I q => h.run pins s σ H Q I (i σ H Q q)⟩
theorem wk_list {K : PySem.W.Frag} {w : Wd} {a : Addr} {vs : List V} {ds : List D} (h : ∀ w' h' H', Sim K fa w' h' H' → Le w w' → SqL K H' a vs) (r : w.RL K fa vs ds) : Wk K fa w (Itl K a) ds where
  go := fun w' h' H' S le i hi => ⟨vs, vs[i]'(by rw [r.length]; exact hi), h w' h' H' S le, List.getElem?_eq_getElem _⟩
  stop := fun w' h' H' S le => ⟨vs, h w' h' H' S le, Nat.le_of_eq r.length⟩
  yld := fun w' h' H' i x H'' d S le e ⟨eh, y⟩ => by
    subst eh
    have e1 := y vs (h w' h' H'' S le)
    obtain ⟨v, e2, r2⟩ := (RepL.mono le.F le.al r).get e
    rw [e1] at e2; cases e2
    exact ⟨w', Ext.refl, S, r2⟩
theorem wk_tuple {K : PySem.W.Frag} {w : Wd} {a : Addr} {vs : List V} {ds : List D} (h : ∀ w' h' H', Sim K fa w' h' H' → Le w w' → SqT K H' a vs) (r : w.RL K fa vs ds) : Wk K fa w (Itt K a) ds where
  go := fun w' h' H' S le i hi => ⟨vs, vs[i]'(by rw [r.length]; exact hi), h w' h' H' S le, List.getElem?_eq_getElem _⟩
  stop := fun w' h' H' S le => ⟨vs, h w' h' H' S le, Nat.le_of_eq r.length⟩
  yld := fun w' h' H' i x H'' d S le e ⟨eh, y⟩ => by
    subst eh
    have e1 := y vs (h w' h' H'' S le)
    obtain ⟨v, e2, r2⟩ := (RepL.mono le.F le.al r).get e
    rw [e1] at e2; cases e2
    exact ⟨w', Ext.refl, S, r2⟩
theorem wk_text {K : PySem.W.Frag} {w : Wd} {x : Tx} : Wk K fa w (Its (toS x)) (x.map fun c => .str [c]) where
  go := fun w' h' H' S le i hi => by
    show i < (toS x).cps.size
    simpa [toS] using hi
  stop := fun w' h' H' S le => by
    show (toS x).cps.size ≤ _
    simp [toS]
  yld := fun w' h' H' i x' H'' d S le e ⟨eh, c, hc, ex⟩ => by
    subst eh ex
    have hc : x[i]? = some c := by simpa [toS] using hc
    rw [List.getElem?_map, hc] at e
    cases e
    exact ⟨w', Ext.refl, S, .str [c]⟩
theorem rngL_len (lo : Int) (n : Nat) : (rngL lo n).length = n := by
  induction n generalizing lo with
  | zero => rfl
  | succ n ih => show (rngL (lo + 1) n).length + 1 = _; rw [ih]
theorem rngL_get : ∀ (n : Nat) (lo : Int) (i : Nat), i < n → (rngL lo n)[i]? = some (.int (lo + i))
  | 0, _, _, h => absurd h (Nat.not_lt_zero _)
  | n + 1, lo, 0, _ => by show some (D.int lo) = _; simp
  | n + 1, lo, i + 1, h => by
    show (rngL (lo + 1) n)[i]? = _
    rw [rngL_get n (lo + 1) i (by omega)]
    congr 2
    omega
theorem wk_rng {K : PySem.W.Frag} {w : Wd} {lo : Int} {n : Nat} : Wk K fa w (Itr lo n) (rngL lo n) where
  go := fun w' h' H' S le i hi => by rw [rngL_len] at hi; exact hi
  stop := fun w' h' H' S le => Nat.le_of_eq (rngL_len lo n).symm
  yld := fun w' h' H' i x H'' d S le e ⟨eh, ex⟩ => by
    subst eh ex
    have hi : i < n := by
      have z := (List.getElem?_eq_some_iff.mp e).1
      rwa [rngL_len] at z
    rw [rngL_get n lo i hi] at e
    cases e
    exact ⟨w', Ext.refl, S, .int _⟩
/-- a list, a tuple or a text, walked -/
def iAny (K : PySem.W.Frag) (te : TE) : TI := fun σ H R => te σ H fun v H1 => (∃ a xs, v = .ref a ∧ SqL K H1 a xs ∧ R (Itl K a) H1) ∨ (∃ a xs, v = .ref a ∧ SqT K H1 a xs ∧ R (Itt K a) H1) ∨ ∃ x, v = .str x ∧ R (Its x) H1
theorem pi_any {tg e : Expr} {te : TE} (he : PE X e te) : PI X tg e (iAny X.K te) := by
  refine ⟨fun pins s σ H R I h => ?_⟩
  refine thn (he.run pins s σ H _ I h) fun v s1 ⟨y, H1, I1, r1, q1⟩ => ?_
  rcases q1 with ⟨a, xs, ea, hq, q⟩ | ⟨a, xs, ea, hq, q⟩ | ⟨x, ex, q⟩
  · subst ea
    cases r1
    obtain ⟨its, rv, p, hz⟩ := I1.list hq
    exact wpAny_pyIter_list p.isList (pi_one (tk := s1.toks) I1 _ (turn_list a _) ⟨_, Heap.get?_push_size _ rfl, rfl, rfl⟩ q)
  · subst ea
    cases r1
    obtain ⟨its, rv, p, hz⟩ := I1.tuple hq
    exact wpAny_pyIter_tuple (show s1.heap.IsTuple a its.toArray from p) (pi_one (tk := s1.toks) I1 _ (turn_tuple a _) ⟨_, Heap.get?_push_size _ rfl, rfl, rfl⟩ q)
  · subst ex
    obtain ⟨t, rfl⟩ := r1
    cases ha : x.cps.all (· < 128)
    · exact wpAny_pyIter_wide ha (pi_one (tk := s1.toks) I1 _ (turn_str _ x t "str_iterator" (.inr rfl)) ⟨_, Heap.get?_push_size _ rfl, rfl, rfl⟩ q)
    · exact wpAny_pyIter_ascii ha (pi_one (tk := s1.toks) I1 _ (turn_str _ x t "str_ascii_iterator" (.inl rfl)) ⟨_, Heap.get?_push_size _ rfl, rfl, rfl⟩ q)
theorem snd_seq {tg : Expr} {m : Ex} {e : Expr} (he : PE X e (Lb.tE fa XR c W H0 X m)) : PI X tg e (tI fa XR c W H0 X (.seq m)) :=
  (pi_any he).imp fun τ H Q ⟨w, h, σ, S, SR, g⟩ => ⟨w, h, σ, S, SR, Good.bind (f := fun x h1 => R.of h1 (walk x)) g fun d h1 w1 H1 v _ e1 S1 r1 g1 => by
    cases d with
    | lst xs =>
      cases r1 with
      | lst z1 z2 => exact .inl ⟨_, _, rfl, .inl (.inl (S1.sub _ _ z1)), g1 w1 H1 _ Ext.refl S1 (wk_list (fun w' h' H' S' le => .inl (.inl (S'.sub _ _ (le.F _ _ z1)))) z2)⟩
    | tup xs =>
      cases r1 with
      | tup z1 z2 => exact .inr (.inl ⟨_, _, rfl, sqT_mono S1.sub z1, g1 w1 H1 _ Ext.refl S1 (wk_tuple (fun w' h' H' S' le => sqT_mono (fun p o z => S'.sub _ _ (le.F _ _ z)) z1) z2)⟩)
    | str x =>
      cases r1
      exact .inr (.inr ⟨_, rfl, g1 w1 H1 _ Ext.refl S1 wk_text⟩)
    | _ => exact (show False from g1).elim⟩
theorem rngOk_of {i : Int} (h : rngOk i = true) : -(2 ^ 62) ≤ i ∧ i < 2 ^ 62 := by
  unfold rngOk at h
  simp only [Bool.and_eq_true, decide_eq_true_eq] at h
  exact h
theorem snd_rng1 (ok : Cok T fa XR c n N sc sto X) {tg : Expr} {m : Ex} {x : Str} {e : Expr} {p p2 : Pos} (h1 : x = ("range" : Str)) (h2 : glob sc x = true) (hs : unstar e = true) (he : PE X e (Lb.tE fa XR c W H0 X m)) : PI X tg (.Call (.Name x p) [e] [] p2) (tI fa XR c W H0 X (.rng1 m)) := by
  subst h1
  refine (pi_range1 (glob_of ok.sc h2) (ok.g.free _ (by decide)) (pa_cons he pa_nil (star_ok hs)) (star_ok hs)).imp fun τ H Q ⟨w, h, σ, S, SR, g⟩ => ⟨w, h, σ, S, SR, Good.bind (f := fun (x : D) h1 => match x with
    | D.int i => if rngOk i then R.ok (rngL 0 i.toNat) h1 else R.bad
    | _ => R.bad) g fun d h1 w1 H1 v _ e1 S1 r1 g1 => ?_⟩
  cases d with
  | int i =>
    cases r1
    by_cases hi : rngOk i = true
    · have g1 : Good X.K fa (fun w' _ J ds => Wk X.K fa w' J ds) XR W τ w1 H1 (if rngOk i then R.ok (rngL 0 i.toNat) h1 else R.bad) Q := g1
      rw [if_pos hi] at g1
      obtain ⟨q1, q2⟩ := rngOk_of hi
      exact ⟨i, rfl, q1, q2, g1 w1 H1 _ Ext.refl S1 wk_rng⟩
    · have g1 : Good X.K fa (fun w' _ J ds => Wk X.K fa w' J ds) XR W τ w1 H1 (if rngOk i then R.ok (rngL 0 i.toNat) h1 else R.bad) Q := g1
      rw [if_neg hi] at g1
      exact (show False from g1).elim
  | _ => exact (show False from g1).elim
theorem snd_rng2 (ok : Cok T fa XR c n N sc sto X) {tg : Expr} {m m2 : Ex} {x : Str} {e e2 : Expr} {p p2 : Pos} (h1 : x = ("range" : Str)) (h2 : glob sc x = true) (hs : unstar e = true) (hs2 : unstar e2 = true) (he : PE X e (Lb.tE fa XR c W H0 X m)) (he2 : PE X e2 (Lb.tE fa XR c W H0 X m2)) : PI X tg (.Call (.Name x p) [e, e2] [] p2) (tI fa XR c W H0 X (.rng2 m m2)) := by
  subst h1
  refine (pi_range2 (glob_of ok.sc h2) (ok.g.free _ (by decide)) (pa_cons he (pa_cons he2 pa_nil (star_ok hs2)) (star_ok hs)) ((star_ok hs).trans (congrArg _ (star_ok hs2))) (star_ok hs2)).imp fun τ H Q ⟨w, h, σ, S, SR, g⟩ => ⟨w, h, σ, S, SR, Good.bind (f := fun (x : D) h1 => (evE c σ m2 h1).bind fun (y : D) h2 => match x, y with
    | D.int i, D.int j => if rngOk i && rngOk j then R.ok (rngL i (j - i).toNat) h2 else R.bad
    | _, _ => R.bad) g fun d h1 w1 H1 v _ e1 S1 r1 g1 => ⟨w1, h1, σ, S1, SR.ext e1, Good.bind (f := fun (y : D) h2 => match d, y with
    | D.int i, D.int j => if rngOk i && rngOk j then R.ok (rngL i (j - i).toNat) h2 else R.bad
    | _, _ => R.bad) g1 fun d2 h2 w2 H2 v2 _ e2 S2 r2 g2 => ?_⟩⟩
  cases d with
  | int i =>
    cases d2 with
    | int j =>
      cases r1
      cases r2
      have g2 : Good X.K fa (fun w' _ J ds => Wk X.K fa w' J ds) XR W τ w2 H2 (if rngOk i && rngOk j then R.ok (rngL i (j - i).toNat) h2 else R.bad) Q := g2
      by_cases hi : (rngOk i && rngOk j) = true
      · rw [if_pos hi] at g2
        rw [Bool.and_eq_true] at hi
        obtain ⟨q1, q2⟩ := rngOk_of hi.1
        obtain ⟨q3, q4⟩ := rngOk_of hi.2
        exact ⟨i, j, rfl, ⟨q1, q2, q3, q4⟩, g2 w2 H2 _ Ext.refl S2 wk_rng⟩
      · rw [if_neg hi] at g2
        exact (show False from g2).elim
    | _ => exact (show False from g2).elim
  | _ => cases d2 <;> exact (show False from g2).elim
end
end Lb
end
section
set_option Elab.async false
set_option linter.all false
set_option maxRecDepth 100000
namespace Lb
open PySem PySem.Spec PyProof.Rows L2
section
variable {K : PySem.W.Frag} {fa : Fa} {XR : XRel} {W : WX} {H0 H H1 H2 : Hp} {w w1 w2 : Wd} {h h1 h2 : Heap} {τ : St} {p : Addr} {o o' : HO}
theorem Ext.own (e : Ext w H w1 H1) (a : H p = some o) (b : p ∉ w.al) (c : w.F p = none) : H1 p = some o ∧ p ∉ w1.al ∧ w1.F p = none := by
  refine ⟨e.keep p o a b, fun m => ?_, ?_⟩
  · rcases e.new p m with z | z
    · exact b z
    · rw [a] at z; cases z
  · cases q : w1.F p with
    | none => rfl
    | some u => rcases e.frz p u q with z | z
                · rw [c] at z; cases z
                · rw [a] at z; cases z
/-- an object is changed that was laid behind H -/
theorem Ext.chg (e : Ext w H w1 H1) (n : H p = none) : Ext w H w1 (upd H1 p o) where
  F := e.F
  al := e.al
  keep := fun q u a b => by
    rw [upd_ne (fun z => by subst z; rw [n] at a; cases a)]
    exact e.keep q u a b
  tr := fun q u a => by
    rw [upd_ne (fun z => by subst z; rw [n] at a; cases a)]
    exact e.tr q u a
  new := e.new
  frz := e.frz
theorem Sim.chg (S : Sim K fa w h H) (b : p ∉ w.al) (c : w.F p = none) : Sim K fa w h (upd H p o) where
  sub := fun q u a => by
    rw [upd_ne (fun z => by subst z; rw [c] at a; cases a)]
    exact S.sub q u a
  nd := S.nd
  out := S.out
  len := S.len
  cell := fun i x a => by
    obtain ⟨q, e1, e2⟩ := S.cell i x a
    refine ⟨q, e1, ?_⟩
    rw [upd_ne (fun z => by subst z; exact b (List.mem_of_getElem? e1))]
    exact e2
theorem Sim.noF (S : Sim K fa w h H) (n : H p = none) : w.F p = none := by
  cases q : w.F p with
  | none => rfl
  | some o => rw [S.sub _ _ q] at n; cases n
theorem Sim.noAl (S : Sim K fa w h H) (n : H p = none) : p ∉ w.al := fun m => by
  obtain ⟨u, q⟩ := S.at m
  rw [n] at q; cases q
def endL (ys : List D) (h : Heap) : R D := if ys.length ≤ sz then .ok (.lst ys) h else .bad
/-- the end of a comprehension over a list of which C holds -/
def EndOk (C : Heap → Prop) (en : List D → Heap → R D) : Prop := ∀ ys h, en ys h = .bad ∨ (en ys h = .ok (.lst ys) h ∧ ys.length ≤ sz ∧ C h)
theorem onl_ok {α : Type} {p : Prop} {r : R α} (h : p) : onl p r = r := by
  unfold onl
  exact if_pos h
theorem onl_no {α : Type} {p : Prop} {r : R α} (h : ¬ p) : onl p r = .bad := by
  unfold onl
  exact if_neg h
theorem end_ok (C : Heap → Prop) : EndOk C fun ys h => onl (C h) (endL ys h) := fun ys h => by
  by_cases c : C h
  · simp only [onl_ok c]
    unfold endL
    by_cases d : ys.length ≤ sz
    · rw [if_pos d]; exact .inr ⟨rfl, d, c⟩
    · rw [if_neg d]; exact .inl rfl
  · exact .inl (onl_no c)
theorem good_end {C : Heap → Prop} {en : List D → Heap → R D} (eo : EndOk C en) {ys : List D} {h' : Heap} {Q : VK} (g : Good K fa (RelN K fa H) XR W τ w1 H1 (en ys h') Q) : ys.length ≤ sz ∧ C h' ∧ Good K fa (RelN K fa H) XR W τ w1 H1 (.ok (.lst ys) h') Q := by
  rcases eo ys h' with z | ⟨z, l, cc⟩
  · rw [z] at g; exact (show False from g).elim
  · rw [z] at g; exact ⟨l, cc, g⟩
theorem good_cons {C : Heap → Prop} {en : List D → Heap → R D} (eo : EndOk C en) {f : D → Heap → R (Option D)} {x : D} {r ys : List D} {h' : Heap} {Q : VK} (g : Good K fa (RelN K fa H) XR W τ w1 H1 ((compL f (x :: r) h').bind fun zs h => en (ys ++ zs) h) Q) :
    ∃ y h2, f x h' = .ok y h2 ∧ (∀ z, y = some z → ys.length < sz) ∧ Good K fa (RelN K fa H) XR W τ w1 H1 ((compL f r h2).bind fun zs h => en ((match y with
      | some z => ys ++ [z]
      | none => ys) ++ zs) h) Q := by
  cases e : f x h' with
  | bad => simp only [compL, e] at g; exact (show False from g).elim
  | ex k p h2 => simp only [compL, e] at g; exact (show False from g).elim
  | ok y h2 =>
    cases e2 : compL f r h2 with
    | bad => simp only [compL, e, e2] at g; exact (show False from g).elim
    | ex k p h3 => simp only [compL, e, e2] at g; exact (show False from g).elim
    | ok zs h3 =>
      simp only [compL, e, e2] at g
      cases y with
      | none =>
        have g : Good K fa (RelN K fa H) XR W τ w1 H1 (en (ys ++ zs) h3) Q := g
        exact ⟨none, h2, rfl, fun z ez => (nomatch ez), by rw [e2]; exact g⟩
      | some z =>
        have g : Good K fa (RelN K fa H) XR W τ w1 H1 (en (ys ++ z :: zs) h3) Q := g
        obtain ⟨l, _, _⟩ := good_end eo g
        refine ⟨some z, h2, rfl, fun z' ez => ?_, ?_⟩
        · simp only [List.length_append, List.length_cons] at l
          omega
        · rw [e2]
          show Good K fa (RelN K fa H) XR W τ w1 H1 (en (ys ++ [z] ++ zs) h3) Q
          rw [List.append_assoc]
          exact g
/-- what a comprehension walks: C holds of each heap in which a turn begins -/
structure WkG (K : PySem.W.Frag) (fa : Fa) (C : Heap → Prop) (w : Wd) (H : Hp) (J : L2.It) (ds : List D) : Prop where
  go : ∀ w' h' H', Sim K fa w' h' H' → Ext w H w' H' → C h' → ∀ i, i < ds.length → J.go i H'
  stop : ∀ w' h' H', Sim K fa w' h' H' → Ext w H w' H' → C h' → J.stop ds.length H'
  yld : ∀ w' h' H' i x H'' d, Sim K fa w' h' H' → Ext w H w' H' → C h' → ds[i]? = some d → J.yld i H' x H'' → ∃ w'', Ext w' H' w'' H'' ∧ Sim K fa w'' h' H'' ∧ w''.R K fa x d
theorem Wk.g {C : Heap → Prop} {J : L2.It} {ds : List D} (k : Wk K fa w J ds) : WkG K fa C w H J ds :=
  ⟨fun w' h' H' S e _ => k.go w' h' H' S e.le, fun w' h' H' S e _ => k.stop w' h' H' S e.le, fun w' h' H' i x H'' d S e _ => k.yld w' h' H' i x H'' d S e.le⟩
theorem wkg_list {C : Heap → Prop} {a : Addr} {ds : List D} (hh : ∀ w' h' H', Sim K fa w' h' H' → Ext w H w' H' → C h' → ∃ vs, SqL K H' a vs ∧ w'.RL K fa vs ds) : WkG K fa C w H (Itl K a) ds where
  go := fun w' h' H' S e cc i hi => by
    obtain ⟨vs, q, r⟩ := hh w' h' H' S e cc
    exact ⟨vs, vs[i]'(by rw [r.length]; exact hi), q, List.getElem?_eq_getElem _⟩
  stop := fun w' h' H' S e cc => by
    obtain ⟨vs, q, r⟩ := hh w' h' H' S e cc
    exact ⟨vs, q, Nat.le_of_eq r.length⟩
  yld := fun w' h' H' i x H'' d S e cc ed ⟨eh, y⟩ => by
    subst eh
    obtain ⟨vs, q, r⟩ := hh w' h' H'' S e cc
    have e1 := y vs q
    obtain ⟨v, e2, r2⟩ := r.get ed
    rw [e1] at e2; cases e2
    exact ⟨w', Ext.refl, S, r2⟩
theorem lc_run {C : Heap → Prop} {en : List D → Heap → R D} (eo : EndOk C en) {f : D → Heap → R (Option D)} (hf : ∀ x h y h2, f x h = .ok y h2 → C h) {J : L2.It} {ds : List D} {g : TG} {tt : TT} {te : TE} {vs : List Nat} {Q : VK} (e1 : Ext w H w1 H1) (S1 : Sim K fa w1 h1 H1) (wk : WkG K fa C w1 H1 J ds)
    (gd : Good K fa (RelN K fa H) XR W τ w1 H1 ((compL f ds h1).bind en) Q)
    (step : ∀ (w' : Wd) (h' : Heap) (H' : Hp) (x : D) (v : V) (y : Option D) (h2 : Heap) (R : V → Hp → Prop) (R' : Hp → Prop), Ext w1 H1 w' H' → Sim K fa w' h' H' → w'.R K fa v x → f x h' = .ok y h2 →
      (∀ w2 H2 (z : D) u, y = some z → Ext w' H' w2 H2 → Sim K fa w2 h2 H2 → w2.R K fa u z → R u H2) → (∀ w2 H2, y = none → Ext w' H' w2 H2 → Sim K fa w2 h2 H2 → R' H2) →
      g v (L2.wipe τ vs) H' fun σ2 H2 => L2.wipe σ2 vs = L2.wipe τ vs ∧ tt σ2 H2 fun b H3 => if b = true then te σ2 H3 R else R' H3) :
    ∀ D, H1 D = none → ∃ W : Nat → Nat → Hp → Prop, (∃ m, W 0 m (upd H1 D (.lst []))) ∧ ∀ i m H, W i m H →
      (J.stop i H ∧ Q (.ref D) H) ∨ (J.go i H ∧ ∃ Nx : Hp → Prop, (∀ H', Nx H' → ∃ m', m' < m ∧ W (i + 1) m' H') ∧ ∀ x H', J.yld i H x H' → g x (L2.wipe τ vs) H' fun σ2 H2 => L2.wipe σ2 vs = L2.wipe τ vs ∧ tt σ2 H2 fun b H3 =>
        if b = true then te σ2 H3 fun y H4 => ∃ acc, H4 D = some (.lst acc) ∧ acc.length < sizeLine ∧ Nx (upd H4 D (.lst (acc ++ [y]))) else Nx H3) := by
  intro D hD
  let St (i : Nat) (Hc : Hp) : Prop := i ≤ ds.length ∧ ∃ (w' : Wd) (h' : Heap) (us : List V) (ys : List Lb.D), Ext w1 H1 w' Hc ∧ Sim K fa w' h' Hc ∧ Hc D = some (.lst us) ∧ w'.RL K fa us ys ∧ w'.F D = none ∧ D ∉ w'.al ∧
    Good K fa (RelN K fa H) XR W τ w1 H1 ((compL f (ds.drop i) h').bind fun zs h => en (ys ++ zs) h) Q
  refine ⟨fun i m Hc => m = ds.length - i ∧ St i Hc, ⟨ds.length, by simp, Nat.zero_le _, w1, h1, [], [], Ext.lay hD, S1.lay hD, upd_same, .nil, S1.noF hD, S1.noAl hD, gd⟩, ?_⟩
  rintro i m Hc ⟨rfl, hi, w', h', us, ys, e', S', hDc, r', nF, nA, g'⟩
  by_cases hlt : i < ds.length
  · rw [List.drop_eq_getElem_cons hlt] at g'
    obtain ⟨z, h3, ez, hl, g3⟩ := good_cons eo g'
    have cc := hf _ _ _ _ ez
    refine .inr ⟨wk.go w' h' Hc S' e' cc i hlt, St (i + 1), fun H' s => ⟨ds.length - (i + 1), by omega, rfl, s⟩, fun x H' y => ?_⟩
    have ed : ds[i]? = some ds[i] := List.getElem?_eq_getElem hlt
    obtain ⟨w2, e2, S2, r2⟩ := wk.yld w' h' Hc i x H' _ S' e' cc ed y
    obtain ⟨o1, o2, o3⟩ := e2.own hDc nA nF
    refine step w2 h' H' ds[i] x z h3 _ _ (e'.trans e2) S2 r2 ez (fun w4 H4 z' u ez' e4 S4 r4 => ?_) (fun w4 H4 ez' e4 S4 => ?_)
    · subst ez'
      obtain ⟨q1, q2, q3⟩ := e4.own o1 o2 o3
      refine ⟨us, q1, ?_, hlt, w4, h3, us ++ [u], ys ++ [z'], ((e'.trans e2).trans e4).chg hD, S4.chg q2 q3, upd_same, ?_, q3, q2, g3⟩
      · rw [r'.length, sizeLine_eq]; exact hl z' rfl
      · exact (e4.RL (e2.RL r')).append (.cons r4 .nil)
    · subst ez'
      obtain ⟨q1, q2, q3⟩ := e4.own o1 o2 o3
      exact ⟨hlt, w4, h3, us, ys, (e'.trans e2).trans e4, S4, q1, e4.RL (e2.RL r'), q3, q2, g3⟩
  · have e : i = ds.length := by omega
    subst e
    rw [List.drop_length] at g'
    have g' : Good K fa (RelN K fa H) XR W τ w1 H1 (en (ys ++ []) h') Q := g'
    rw [List.append_nil] at g'
    obtain ⟨_, cc, g9⟩ := good_end eo g'
    refine .inl ⟨wk.stop w' h' Hc S' e' cc, ?_⟩
    exact g9 w' Hc _ e' S' (.inr ⟨D, us, ys, rfl, rfl, hDc, r', nF, nA, none_of_tr e1.tr hD⟩)
end
section
variable {fa : Fa} {XR : XRel} {c : Cl} {W : WX} {H0 : Hp} {X : Cx} {T : Tb} {n : Nat} {N : List Str} {sc sp : Scope} {sto : Sto}
theorem wipe_wipe' (τ : St) (vs : List Nat) : ∀ us : List Nat, (∀ u ∈ us, u ∈ vs) → L2.wipe (L2.wipe τ us) vs = L2.wipe τ vs
  | [], _ => rfl
  | u :: us, h => (wipe_set (L2.wipe τ us) (h u List.mem_cons_self)).trans (wipe_wipe' τ vs us fun x hx => h x (List.mem_cons_of_mem _ hx))
theorem wipe_wipe (τ : St) (vs : List Nat) : L2.wipe (L2.wipe τ vs) vs = L2.wipe τ vs := wipe_wipe' τ vs vs fun _ h => h
abbrev W0 : WX := fun _ _ _ _ => False
theorem tk0 {X : Cx} : Takes X W0 := fun _ _ x => by
  obtain ⟨_, _, _, _, _, _, _, _, _, _, _, _, _, _, _, _, z⟩ := x
  exact z.elim
theorem relS_lookup {x : Str} {k : NameKind} (hk : k ≠ .free) (sc : Scope) : ∀ {l : List (Str × NameKind)}, l.lookup x = some k → (l.map fun (n, k) => if (k == .free && sc.kind == .function && sc.names.lookup n == some .cell) then (n, NameKind.cell) else (n, k)).lookup x = some k
  | [], h => nomatch h
  | (y, j) :: l, h => by
    rw [List.lookup_cons] at h
    rw [List.map_cons]
    by_cases e : (x == y) = true
    · rw [e] at h
      have h : j = k := Option.some.inj h
      subst h
      have hj : (j == NameKind.free) = false := by cases j <;> first | rfl | exact absurd rfl hk
      simp only [hj, Bool.false_and, Bool.false_eq_true, if_false]
      rw [List.lookup_cons, e]
    · have e : (x == y) = false := by simpa using e
      rw [e] at h
      have ih := relS_lookup hk sc h
      show List.lookup x ((if _ then (y, NameKind.cell) else (y, j)) :: _) = _
      split <;> (rw [List.lookup_cons, e]; exact ih)
theorem Cok.blk (ok : Cok T fa XR c n N sc sto X) (s : Shared) (H : Hp) (cl : List (Str × Addr)) (C : Addr) (fp : List Addr) : Cok T fa XR c n N (relS sp sc) (stoS sp) (X.blk s H sp (compEnvC sp cl C X.env) fp) where
  g := ⟨ok.g.fns, ok.g.kons, ok.g.free⟩
  N := ok.N
  nd := ok.nd
  sc := by
    have e := ok.sc
    subst e
    rfl
  calm := ok.calm
  room := ok.room
  sto := fun x h => by
    have es : (compEnvC sp cl C X.env).scope = relS sp X.env.scope := rfl
    unfold stoS at h
    show Loc (compEnvC sp cl C X.env).scope x ∧ ((sp.names.lookup x == some .cell) = true ∨ (compEnvC sp cl C X.env).scope.names.lookup x = some .local)
    rw [es]
    split at h
    · rename_i e
      have q := relS_lookup (by decide) X.env.scope e
      exact ⟨.inl q, .inr q⟩
    · rename_i e
      have q := relS_lookup (by decide) X.env.scope e
      exact ⟨.inr q, .inl (by rw [e]; rfl)⟩
    · cases h
theorem fold_ok {e : Expr} (h : isSet e = false) (env : PySem.Env) (x : Value) : foldedSetIterable e env x = pure x := by
  cases e <;> first | rfl | (simp [isSet] at h; done)
theorem own_slots (is : List Nat) : (ownOf N is).map (·.2) = is := by
  unfold ownOf
  rw [List.map_map]
  exact List.map_id _
/-- the walk's reading, of a comprehension -/
def tIG (fa : Fa) (XR : XRel) (c : Cl) (W : WX) (H0 : Hp) (X : Cx) (m : Lb.It) : TI := tR X.K fa XR W H0 (fun _ w' H' J (p : List D × (Heap → Prop)) => WkG X.K fa p.2 w' H' J p.1) fun σ h => (evI c σ m h).bind fun xs h1 => .ok (xs, fun h' => live σ h' xs m) h1
/-- the element of a turn -/
noncomputable def turnL (c : Cl) (σ : Fr) (tg : Tg) (el : Ex) (C : Heap → Prop) : D → Heap → R (Option D) := fun x h => onl (C h) ((R.of h (tg.set x (Lb.wipe σ tg.slots))).bind fun σ' h => (evE c σ' el h).bind fun y h => .ok (some y) h)
noncomputable def turnF (c : Cl) (σ : Fr) (tg : Tg) (cn el : Ex) (C : Heap → Prop) : D → Heap → R (Option D) := fun x h => onl (C h) ((R.of h (tg.set x (Lb.wipe σ tg.slots))).bind fun σ' h => (evE c σ' cn h).bind fun b h => (R.of h (truth b)).bind fun k h => match k with
    | true => (evE c σ' el h).bind fun y h => .ok (some y) h
    | false => .ok none h)
theorem onl_get {α : Type} {p : Prop} {r : R α} {a : α} {h : Heap} (e : onl p r = .ok a h) : p ∧ r = .ok a h := by
  by_cases c : p
  · rw [onl_ok c] at e; exact ⟨c, e⟩
  · rw [onl_no c] at e; cases e
theorem good_pair {α : Type} {Rel : Wd → Hp → α → (List D × (Heap → Prop)) → Prop} {r : R (List D)} {L : List D → Heap → Prop} {Q : α → Hp → Prop} {K : PySem.W.Frag} {τ : St} {w : Wd} {H : Hp} (g : Good K fa Rel XR W τ w H (r.bind fun xs h1 => .ok (xs, L xs) h1) Q) :
    Good K fa (fun w' H' J xs => Rel w' H' J (xs, L xs)) XR W τ w H r Q := by
  cases r with
  | ok xs h => exact g
  | ex k p h => exact g
  | bad => exact g
theorem good_unpair {β : Type} {Rel : Wd → Hp → β → D → Prop} {r : R (List D)} {L : List D → Heap → Prop} {k : (List D × (Heap → Prop)) → Heap → R D} {Q : β → Hp → Prop} {K : PySem.W.Frag} {τ : St} {w : Wd} {H : Hp} (g : Good K fa Rel XR W τ w H (r.bind fun xs h1 => k (xs, L xs) h1) Q) :
    Good K fa Rel XR W τ w H ((r.bind fun xs h1 => .ok (xs, L xs) h1).bind k) Q := by
  cases r with
  | ok xs h => exact g
  | ex k p h => exact g
  | bad => exact g
theorem rd_comp {tg : Tg} {it : Lb.It} {el : Ex} {τ : St} {H : Hp} {Q : VK} (q : tX fa XR c W H0 X (.comp tg it el) τ H Q) : tLc (tIG fa XR c W H0 X it) (tG fa H0 X tg) tYes (Lb.tE fa XR c W0 H0 X el) ((ownOf N tg.slots).map (·.2)) τ H Q := by
  obtain ⟨w, h, σ, S, SR, g⟩ := q
  refine ⟨w, h, σ, S, SR, Good.bind (f := fun (p : List D × (Heap → Prop)) h1 => (compL (turnL c σ tg el p.2) p.1 h1).bind fun ys h2 => onl (p.2 h2) (endL ys h2)) (good_unpair g) fun ds h1 w1 H1 J _ e1 S1 wk g1 => ?_⟩
  rw [own_slots]
  refine lc_run (end_ok ds.2) (fun x h y h2 e => (onl_get e).1) e1 S1 wk g1 fun w' h' H' x v y h2 Rr Rn e' S' r ez hR hN => ?_
  have ez := (onl_get ez).2
  have ez : ((R.of h' (tg.set x (Lb.wipe σ tg.slots))).bind fun σ' h => (evE c σ' el h).bind fun y h => R.ok (some y) h) = .ok y h2 := ez
  cases es : tg.set x (Lb.wipe σ tg.slots) with
  | none => rw [es] at ez; cases ez
  | some σ' =>
    rw [es] at ez
    have ez : ((evE c σ' el h').bind fun y h => R.ok (some y) h) = R.ok y h2 := ez
    cases ee : evE c σ' el h' with
    | bad => rw [ee] at ez; cases ez
    | ex k p h3 => rw [ee] at ez; cases ez
    | ok z h3 =>
      rw [ee] at ez
      cases ez
      refine ⟨w', h', _, σ', x, S', ((SR.ext e1).ext e').wipe tg.slots, r, es, fun τ' SR' hw => ⟨?_, iteT (B := Rn H') ⟨w', h', σ', S', SR', ?_⟩⟩⟩
      · rw [hw tg.slots fun _ h => h]
        exact wipe_wipe τ tg.slots
      · show Good X.K fa _ XR W0 τ' w' H' (evE c σ' el h') _
        rw [ee]
        exact fun w2 H2 u e2 S2 r2 => hR w2 H2 z u rfl e2 S2 r2
theorem snd_comp (ok : Cok T fa XR c n N sc sto X) {tg : Tg} {it : Lb.It} {el : Ex} {t i e : Expr} {p : Pos} (hi : PI X t i (tIG fa XR c W H0 X it)) (hb : blkC N sc sp (ownOf N tg.slots) = true) (ht : ckTg N (stoS sp) tg t = true) (hs : isSet i = false)
    (he : ∀ X', Cok T fa XR c n N (relS sp sc) (stoS sp) X' → Takes X' W0 → PE X' e (Lb.tE fa XR c W0 H0 X' el)) : PE X (.ListComp e [⟨t, i, [], 0⟩] sp p) (tX fa XR c W H0 X (.comp tg it el)) := by
  have hb : BlkOk X.N X.env.scope sp (ownOf N tg.slots) := by
    rw [ok.N, ok.sc]
    exact blkOk_by hb
  exact (pe_lc (g := tG fa H0 X tg) (tt := tYes) (te := Lb.tE fa XR c W0 H0 X el) ok.calm ok.nd hi hb (fun s H C cl fp => snd_tg (ok.blk s H cl C fp) ht) (fun s H C cl fp => pts_nil) (fun s H C cl fp => he _ (ok.blk s H cl C fp) tk0) (fold_ok hs X.env)).imp fun τ H Q q => rd_comp q
theorem rd_compIf {tg : Tg} {it : Lb.It} {cn el : Ex} {τ : St} {H : Hp} {Q : VK} (q : tX fa XR c W H0 X (.compIf tg it cn el) τ H Q) : tLc (tIG fa XR c W H0 X it) (tG fa H0 X tg) (tT fa XR c W0 H0 X cn) (Lb.tE fa XR c W0 H0 X el) ((ownOf N tg.slots).map (·.2)) τ H Q := by
  obtain ⟨w, h, σ, S, SR, g⟩ := q
  refine ⟨w, h, σ, S, SR, Good.bind (f := fun (p : List D × (Heap → Prop)) h1 => (compL (turnF c σ tg cn el p.2) p.1 h1).bind fun ys h2 => onl (p.2 h2) (endL ys h2)) (good_unpair g) fun ds h1 w1 H1 J _ e1 S1 wk g1 => ?_⟩
  rw [own_slots]
  refine lc_run (end_ok ds.2) (fun x h y h2 e => (onl_get e).1) e1 S1 wk g1 fun w' h' H' x v y h2 Rr Rn e' S' r ez hR hN => ?_
  have ez := (onl_get ez).2
  have ez : ((R.of h' (tg.set x (Lb.wipe σ tg.slots))).bind fun σ' h => (evE c σ' cn h).bind fun b h => (R.of h (truth b)).bind fun k h => match k with
    | true => (evE c σ' el h).bind fun y h => R.ok (some y) h
    | false => R.ok none h) = R.ok y h2 := ez
  cases es : tg.set x (Lb.wipe σ tg.slots) with
  | none => rw [es] at ez; cases ez
  | some σ' =>
    rw [es] at ez
    have ez : ((evE c σ' cn h').bind fun b h => (R.of h (truth b)).bind fun k h => match k with
      | true => (evE c σ' el h).bind fun y h => R.ok (some y) h
      | false => R.ok none h) = R.ok y h2 := ez
    cases ec : evE c σ' cn h' with
    | bad => rw [ec] at ez; cases ez
    | ex k p h3 => rw [ec] at ez; cases ez
    | ok b h3 =>
      rw [ec] at ez
      cases et : truth b with
      | none =>
        have ez : ((R.of h3 (truth b)).bind fun k h => match k with
          | true => (evE c σ' el h).bind fun y h => R.ok (some y) h
          | false => R.ok none h) = R.ok y h2 := ez
        rw [et] at ez; cases ez
      | some k =>
        have ez : ((R.of h3 (truth b)).bind fun k h => match k with
          | true => (evE c σ' el h).bind fun y h => R.ok (some y) h
          | false => R.ok none h) = R.ok y h2 := ez
        rw [et] at ez
        refine ⟨w', h', _, σ', x, S', ((SR.ext e1).ext e').wipe tg.slots, r, es, fun τ' SR' hw => ⟨?_, w', h', σ', S', SR', ?_⟩⟩
        · rw [hw tg.slots fun _ h => h]
          exact wipe_wipe τ tg.slots
        · show Good X.K fa _ XR W0 τ' w' H' (evT c σ' cn h') _
          unfold evT
          rw [ec]
          show Good X.K fa _ XR W0 τ' w' H' (R.of h3 (truth b)) _
          rw [et]
          intro w2 H2 u e2 S2 r2
          have r2 : u = k := r2
          subst r2
          cases u with
          | false =>
            cases ez
            exact iteF (hN w2 H2 rfl e2 S2)
          | true =>
            have ez : ((evE c σ' el h3).bind fun y h => R.ok (some y) h) = R.ok y h2 := ez
            cases ee : evE c σ' el h3 with
            | bad => rw [ee] at ez; cases ez
            | ex k p h4 => rw [ee] at ez; cases ez
            | ok z h4 =>
              rw [ee] at ez
              cases ez
              refine iteT (B := Rn H2) ⟨w2, h3, σ', S2, SR'.ext e2, ?_⟩
              show Good X.K fa _ XR W0 τ' w2 H2 (evE c σ' el h3) _
              rw [ee]
              exact fun w3 H3 u e3 S3 r3 => hR w3 H3 z u rfl (e2.trans e3) S3 r3
theorem snd_compIf (ok : Cok T fa XR c n N sc sto X) {tg : Tg} {it : Lb.It} {cn el : Ex} {t i q e : Expr} {p : Pos} (hi : PI X t i (tIG fa XR c W H0 X it)) (hb : blkC N sc sp (ownOf N tg.slots) = true) (ht : ckTg N (stoS sp) tg t = true) (hs : isSet i = false)
    (hq : ∀ X', Cok T fa XR c n N (relS sp sc) (stoS sp) X' → Takes X' W0 → PT X' q (tT fa XR c W0 H0 X' cn))
    (he : ∀ X', Cok T fa XR c n N (relS sp sc) (stoS sp) X' → Takes X' W0 → PE X' e (Lb.tE fa XR c W0 H0 X' el)) : PE X (.ListComp e [⟨t, i, [q], 0⟩] sp p) (tX fa XR c W H0 X (.compIf tg it cn el)) := by
  have hb : BlkOk X.N X.env.scope sp (ownOf N tg.slots) := by
    rw [ok.N, ok.sc]
    exact blkOk_by hb
  exact (pe_lc (g := tG fa H0 X tg) (tt := tT fa XR c W0 H0 X cn) (te := Lb.tE fa XR c W0 H0 X el) ok.calm ok.nd hi hb (fun s H C cl fp => snd_tg (ok.blk s H cl C fp) ht) (fun s H C cl fp => pts_one (hq _ (ok.blk s H cl C fp) tk0)) (fun s H C cl fp => he _ (ok.blk s H cl C fp) tk0) (fold_ok hs X.env)).imp fun τ H Q q => rd_compIf q
/-- the walks of a comprehension -/
theorem pi_g {m : Lb.It} {t e : Expr} (h : PI X t e (tI fa XR c W H0 X m)) : PI X t e (tIG fa XR c W H0 X m) :=
  h.imp fun τ H Q ⟨w, h, σ, S, SR, g⟩ => ⟨w, h, σ, S, SR, by
    have g := good_pair g
    show Good X.K fa (fun w' _ J ds => Wk X.K fa w' J ds) XR W τ w H (evI c σ m h) Q
    generalize evI c σ m h = r at g
    cases r with
    | ok xs h1 => exact fun w' H' J e1 S1 wk => g w' H' J e1 S1 (Wk.g wk)
    | ex k p h1 => exact g
    | bad => exact g⟩
theorem pi_own (ok : Cok T fa XR c n N sc sto X) {j : Nat} {t e : Expr} (h : ckVar N sc j e = true) : PI X t e (tIG fa XR c W H0 X (.own j)) :=
  (pi_any (ckVar_of ok h)).imp fun τ H Q ⟨w, h, σ, S, SR, g⟩ => by
    have g := good_pair g
    cases es : σ[j]? with
    | none =>
      have e1 : evI c σ (.own j) h = .bad := by
        show (match σ[j]? with
          | some (.own xs) => R.ok xs h
          | _ => .bad) = _
        rw [es]
      rw [e1] at g
      exact (show False from g).elim
    | some s =>
      cases s with
      | own xs =>
        have e1 : evI c σ (.own j) h = .ok xs h := by
          show (match σ[j]? with
            | some (.own xs) => R.ok xs h
            | _ => .bad) = _
          rw [es]
        rw [e1] at g
        obtain ⟨p, vs, a1, a2, a3, a4, a5, a6⟩ := SR.own j xs es
        refine ⟨_, a1, .inl ⟨p, vs, rfl, .inl (.inl a2), g w H _ Ext.refl S (wkg_list fun w' h' H' S' e' _ => ?_)⟩⟩
        obtain ⟨q1, q2, q3⟩ := e'.own a2 a5 a4
        exact ⟨vs, .inl (.inl q1), e'.RL a3⟩
      | v d =>
        have e1 : evI c σ (.own j) h = .bad := by
          show (match σ[j]? with
            | some (.own xs) => R.ok xs h
            | _ => .bad) = _
          rw [es]
        rw [e1] at g
        exact (show False from g).elim
      | no =>
        have e1 : evI c σ (.own j) h = .bad := by
          show (match σ[j]? with
            | some (.own xs) => R.ok xs h
            | _ => .bad) = _
          rw [es]
        rw [e1] at g
        exact (show False from g).elim
theorem evI_cel {σ : Fr} {j : Nat} {h : Heap} {xs : List D} {h1 : Heap} (e : evI c σ (.cel j) h = .ok xs h1) : h1 = h ∧ ∃ a, σ[j]? = some (.v (.cell a)) ∧ h[a]? = some (.lst xs) := by
  have e : (match σ[j]? with
    | some (.v (.cell a)) => (match h[a]? with
      | some (.lst xs) => R.ok xs h
      | _ => .bad)
    | _ => .bad) = R.ok xs h1 := e
  split at e
  · split at e
    · cases e
      exact ⟨rfl, _, by assumption, by assumption⟩
    · cases e
  · cases e
theorem evI_celX {σ : Fr} {j k : Nat} {h : Heap} {p : D} {h1 : Heap} : evI c σ (.cel j) h ≠ .ex k p h1 := fun e => by
  have e : (match σ[j]? with
    | some (.v (.cell a)) => (match h[a]? with
      | some (.lst xs) => R.ok xs h
      | _ => .bad)
    | _ => .bad) = R.ex k p h1 := e
  split at e
  · split at e
    · cases e
    · cases e
  · cases e
theorem cellR_lst {K : PySem.W.Frag} {w : Wd} {xs : List D} {o : Option HO} (h : CellR K fa w (.lst xs) o) : ∃ vs, o = some (.lst vs) ∧ w.RL K fa vs xs := by
  cases o with
  | none => exact (show False from h).elim
  | some u =>
    cases u with
    | lst vs => exact ⟨vs, rfl, h⟩
    | _ => exact (show False from h).elim
theorem pi_cel (ok : Cok T fa XR c n N sc sto X) {j : Nat} {t e : Expr} (h : ckVar N sc j e = true) : PI X t e (tIG fa XR c W H0 X (.cel j)) :=
  (pi_any (ckVar_of ok h)).imp fun τ H Q ⟨w, h, σ, S, SR, g⟩ => by
    have g := good_pair g
    cases e1 : evI c σ (.cel j) h with
    | bad => rw [e1] at g; exact (show False from g).elim
    | ex k p h1 => exact (evI_celX e1).elim
    | ok xs h1 =>
      obtain ⟨rfl, a, es, ea⟩ := evI_cel e1
      rw [e1] at g
      obtain ⟨v, t1, t2⟩ := SR.val j _ es
      have t2 : Rep X.K fa w.F w.al v (.cell a) := t2
      cases t2 with
      | cell q =>
        rename_i p
        obtain ⟨p', q1, q2⟩ := S.cell a _ ea
        rw [q] at q1
        cases q1
        obtain ⟨vs, z1, z2⟩ := cellR_lst q2
        refine ⟨_, t1, .inl ⟨p, vs, rfl, .inl (.inl z1), g w H _ Ext.refl S (wkg_list fun w' h' H' S' e' cc => ?_)⟩⟩
        obtain ⟨b, b1, b2⟩ : ∃ b, σ[j]? = some (.v (.cell b)) ∧ h'[b]? = some (.lst xs) := cc
        rw [es] at b1
        cases b1
        obtain ⟨p2, q3, q4⟩ := S'.cell a _ b2
        have q5 := e'.al a _ q
        rw [q5] at q3
        cases q3
        obtain ⟨vs2, z3, z4⟩ := cellR_lst q4
        exact ⟨vs2, .inl (.inl z3), z4⟩
end
end Lb
end
section
set_option Elab.async false
set_option linter.all false
set_option maxRecDepth 100000
namespace Lb
open PySem PySem.Spec PyProof.Rows L2
section
variable {fa : Fa} {XR : XRel} {c : Cl} {W : WX} {H0 : Hp} {X : Cx} {T : Tb} {n : Nat} {N : List Str} {sc : Scope} {sto : Sto}
abbrev RT : Wd → Hp → Bool → Bool → Prop := fun _ _ a b => a = b
theorem pw_of {op : BoolOp} {vs : List Expr} {p : Pos} {t : TT} (h : PT X (.BoolOp op vs p) t) : PW X (.BoolOp op vs p) t := ⟨fun wh pins s σ H Q I q => h.run pins s σ H Q I q⟩
theorem tru_rep {w : Wd} {h : Heap} {H : Hp} {v : V} {d : D} {k : Bool} (S : Sim X.K fa w h H) (r : RelB X.K fa w H v d) (e : truth d = some k) : TruV X.K v H k := by
  rcases r with r | ⟨p, vs, xs, rfl, rfl, z1, z2, _⟩
  · cases r with
    | non => cases e; rfl
    | bl b => cases e; rfl
    | int i => cases e; rfl
    | str x =>
      obtain ⟨e1, e2⟩ := ite_some (show (if x.length ≤ sz then some (!x.isEmpty) else none) = some k from e)
      cases e2
      refine ⟨by rw [toS_len]; exact szl e1, ?_⟩
      rw [toS_len]
      cases x with
      | nil => rfl
      | cons c x => simp; omega
    | tup r1 rr =>
      cases e
      refine .inr (.inl ⟨_, sqT_mono S.sub r1, ?_⟩)
      cases rr <;> rfl
    | lst r1 rr =>
      cases e
      refine .inl ⟨_, .inl (.inl (S.sub _ _ r1)), ?_⟩
      cases rr <;> rfl
    | _ => cases e
  · cases e
    refine .inl ⟨_, .inl (.inl z1), ?_⟩
    cases z2 <;> rfl
theorem snd_truth {m : Ex} {e : Expr} (he : PE X e (Lb.tB fa XR c W H0 X m)) (hp : plainT e = true) : PT X e (tT fa XR c W H0 X m) := by
  have hw : ∀ whole, isTrue e X.env whole = (do let v ← whole; standAt e.pos; holding [v] (truthy v)) := by
    intro whole
    cases e <;> first | rfl | (simp [plainT] at hp; done) | skip
    rename_i o _ _
    cases o <;> first | rfl | (simp [plainT] at hp; done)
  refine (pt_truth he hw).imp fun τ H Q ⟨w, h, σ, S, SR, g⟩ => ⟨w, h, σ, S, SR, Good.bind (f := fun x h1 => R.of h1 (truth x)) g fun d h1 w1 H1 v _ e1 S1 r1 g1 => ?_⟩
  cases et : truth d with
  | none => rw [et] at g1; exact (show False from g1).elim
  | some k =>
    rw [et] at g1
    exact ⟨k, tru_rep S1 r1 et, g1 w1 H1 k Ext.refl S1 rfl⟩
/-- a run of a test through its value -/
theorem evT_of {m : Ex} {σ : Fr} {h h1 : Heap} {x : D} (e : evE c σ m h = .ok x h1) : evT c σ m h = R.of h1 (truth x) := by
  unfold evT
  rw [e]
  rfl
theorem sndT_not {a : Ex} {e : Expr} {p : Pos} (ha : PT X e (tT fa XR c W H0 X a)) : PT X (.UnaryOp .Not e p) (tT fa XR c W H0 X (.not a)) :=
  (pt_not ha).imp fun τ H Q ⟨w, h, σ, S, SR, g⟩ => ⟨w, h, σ, S, SR, by
    have g : Good X.K fa RT XR W τ w H (((evE c σ a h).bind fun (x : D) h1 => match x with
      | D.bl b => R.ok (D.bl (!b)) h1
      | _ => R.bad).bind fun x h1 => R.of h1 (truth x)) Q := g
    show Good X.K fa RT XR W τ w H (evT c σ a h) _
    cases ea : evE c σ a h with
    | bad => rw [ea] at g; exact (show False from g).elim
    | ex k p h1 => rw [ea] at g; unfold evT; rw [ea]; exact g
    | ok x h1 =>
      rw [ea] at g
      rw [evT_of ea]
      cases x with
      | bl b =>
          intro w1 H1 v e1 S1 r1
          have r1 : v = b := r1
          subst r1
          exact g w1 H1 (!v) e1 S1 rfl
      | _ => exact (show False from g).elim⟩
theorem sndT_and0 {a b : Ex} {τ : St} {H : Hp} {Q : Bool → Hp → Prop} (q : tT fa XR c W H0 X (.and a b) τ H Q) : tAnd (tT fa XR c W H0 X a) (tT fa XR c W H0 X b) τ H Q := by
  obtain ⟨w, h, σ, S, SR, g⟩ := q
  refine ⟨w, h, σ, S, SR, ?_⟩
  have g : Good X.K fa RT XR W τ w H (((evE c σ a h).bind fun (x : D) h1 => match x with
    | D.bl true => evE c σ b h1
    | D.bl false => R.ok (D.bl false) h1
    | _ => R.bad).bind fun x h1 => R.of h1 (truth x)) Q := g
  show Good X.K fa RT XR W τ w H (evT c σ a h) _
  cases ea : evE c σ a h with
  | bad => rw [ea] at g; exact (show False from g).elim
  | ex k p h1 => rw [ea] at g; unfold evT; rw [ea]; exact g
  | ok x h1 =>
    rw [ea] at g
    rw [evT_of ea]
    cases x with
    | bl k =>
        intro w1 H1 v e1 S1 r1
        have r1 : v = k := r1
        subst r1
        have g := Good.ext g e1
        cases v with
        | true => exact iteT ⟨w1, h1, σ, S1, SR.ext e1, g⟩
        | false => exact iteF (g w1 H1 false Ext.refl S1 rfl)
    | _ => exact (show False from g).elim
theorem sndT_or0 {a b : Ex} {τ : St} {H : Hp} {Q : Bool → Hp → Prop} (q : tT fa XR c W H0 X (.or a b) τ H Q) : tOr (tT fa XR c W H0 X a) (tT fa XR c W H0 X b) τ H Q := by
  obtain ⟨w, h, σ, S, SR, g⟩ := q
  refine ⟨w, h, σ, S, SR, ?_⟩
  have g : Good X.K fa RT XR W τ w H (((evE c σ a h).bind fun (x : D) h1 => match x with
    | D.bl true => R.ok (D.bl true) h1
    | D.bl false => evE c σ b h1
    | _ => R.bad).bind fun x h1 => R.of h1 (truth x)) Q := g
  show Good X.K fa RT XR W τ w H (evT c σ a h) _
  cases ea : evE c σ a h with
  | bad => rw [ea] at g; exact (show False from g).elim
  | ex k p h1 => rw [ea] at g; unfold evT; rw [ea]; exact g
  | ok x h1 =>
    rw [ea] at g
    rw [evT_of ea]
    cases x with
    | bl k =>
        intro w1 H1 v e1 S1 r1
        have r1 : v = k := r1
        subst r1
        have g := Good.ext g e1
        cases v with
        | true => exact iteT (g w1 H1 true Ext.refl S1 rfl)
        | false => exact iteF ⟨w1, h1, σ, S1, SR.ext e1, g⟩
    | _ => exact (show False from g).elim
/-- a comparison, as a test -/
theorem sndT_val {m : Ex} {t : TE} (i : ∀ τ H Q, tX fa XR c W H0 X m τ H Q → t τ H Q) (hf : form m = .rep) (hv : ∀ σ h x h1, evE c σ m h = .ok x h1 → ∃ k, x = .bl k) {e : Expr} (ht : PT X e (tTest t)) : PT X e (tT fa XR c W H0 X m) :=
  ht.imp fun τ H Q ⟨w, h, σ, S, SR, g⟩ => i τ H _ ⟨w, h, σ, S, SR, by
    show Good X.K fa (RelF X.K fa (form m) H) XR W τ w H (evE c σ m h) _
    rw [hf]
    have g : Good X.K fa RT XR W τ w H ((evE c σ m h).bind fun x h1 => R.of h1 (truth x)) Q := g
    cases em : evE c σ m h with
    | bad => rw [em] at g; exact (show False from g).elim
    | ex k p h1 => rw [em] at g; exact g
    | ok x h1 =>
      rw [em] at g
      intro w1 H1 v e1 S1 r1
      have g : Good X.K fa RT XR W τ w H (R.of h1 (truth x)) Q := g
      have r1 : w1.R X.K fa v x := r1
      obtain ⟨k, ex⟩ := hv σ h x h1 em
      subst ex
      cases r1
      exact ⟨k, rfl, g w1 H1 k e1 S1 rfl⟩⟩
theorem of_map {α : Type} {o : Option α} {f : α → D} {h h1 : Heap} {x : D} (e : R.of h (o.map f) = .ok x h1) : ∃ k, x = f k := by
  cases o with
  | none => cases e
  | some k => cases e; exact ⟨k, rfl⟩
theorem bind_ok {α β : Type} {r : R α} {f : α → Heap → R β} {x : β} {h1 : Heap} (e : r.bind f = .ok x h1) : ∃ y h, r = .ok y h ∧ f y h = .ok x h1 := by
  cases r with
  | ok y h => exact ⟨y, h, rfl, e⟩
  | ex k p h => cases e
  | bad => cases e
theorem bl_cmp {o : Cm} {a b : Ex} {σ : Fr} {h h1 : Heap} {x : D} (e : evE c σ (.cmp o a b) h = .ok x h1) : ∃ k, x = .bl k := by
  have e : ((evE c σ a h).bind fun x h1 => (evE c σ b h1).bind fun y h2 => R.of h2 ((cmp o (rd h2 x) (rd h2 y)).map D.bl)) = .ok x h1 := e
  obtain ⟨_, _, _, e⟩ := bind_ok e
  obtain ⟨_, _, _, e⟩ := bind_ok e
  exact of_map e
theorem bl_isk {nn : Bool} {a : Ex} {k : Kc} {σ : Fr} {h h1 : Heap} {x : D} (e : evE c σ (.isk nn a k) h = .ok x h1) : ∃ k, x = .bl k := by
  have e : ((evE c σ a h).bind fun x h1 => R.of h1 ((isk k x).map fun b => D.bl (b != nn))) = .ok x h1 := e
  obtain ⟨_, _, _, e⟩ := bind_ok e
  obtain ⟨k, e⟩ := of_map e
  exact ⟨_, e⟩
theorem bl_chain {o o' : Cm} {a b m : Ex} {σ : Fr} {h h1 : Heap} {x : D} (e : evE c σ (.chain o o' a b m) h = .ok x h1) : ∃ k, x = .bl k := by
  have e : ((evE c σ a h).bind fun x h1 => (evE c σ b h1).bind fun y h2 => (R.of h2 (cmp o x y)).bind fun k h3 => match k with
    | false => R.ok (D.bl false) h3
    | true => (evE c σ m h3).bind fun z h4 => R.of h4 ((cmp o' y z).map D.bl)) = .ok x h1 := e
  obtain ⟨_, _, _, e⟩ := bind_ok e
  obtain ⟨_, _, _, e⟩ := bind_ok e
  obtain ⟨k, _, _, e⟩ := bind_ok e
  cases k with
  | false => cases e; exact ⟨false, rfl⟩
  | true =>
    have e : ((evE c σ m _).bind fun z h4 => R.of h4 ((cmp o' _ z).map D.bl)) = .ok x h1 := e
    obtain ⟨_, _, _, e⟩ := bind_ok e
    exact of_map e
end
end Lb
end
section
set_option Elab.async false
set_option linter.all false
set_option maxRecDepth 100000
namespace Lb
open PySem PySem.Spec PyProof.Rows L2
section
variable {fa : Fa} {XR : XRel} {c : Cl} {X : Cx} {T : Tb} {n : Nat} {N : List Str}
theorem snd_rev {W : WX} {H0 : Hp} {a : Ex} {e : Expr} {k : Nat} {p1 p2 p3 pos : Pos} (ha : PE X e (Lb.tB fa XR c W H0 X a)) : PE X (.Subscript e (.Slice none none (some (.UnaryOp .USub (.Constant (.int 1) k p1) p2)) p3) pos) (tX fa XR c W H0 X (.rev a)) :=
  (pe_revL ha).imp fun τ H Q ⟨w, h, σ, S, SR, g⟩ => ⟨w, h, σ, S, SR, Good.bind (f := fun x h1 => R.of h1 (rev (rd h1 x))) g fun d h1 w1 H1 v _ e1 S1 r1 g1 => by
    cases e : rd h1 d with
    | lst xs =>
      rw [e] at g1
      have q := r1.vp S1
      rw [e] at q
      obtain ⟨p, vs, rfl, z1, z2⟩ := q.list S1.sub
      refine ⟨p, vs, rfl, .inl (.inl z1), fun b hb => ?_⟩
      obtain ⟨w3, e3, S3, n3⟩ := (Res.lst (K := X.K) (fa := fa) hb z2.reverse).toN S1 e1
      exact g1 w3 _ _ e3 S3 n3
    | _ => rw [e] at g1; exact (show False from g1).elim⟩
/-- an object laid behind H is frozen -/
theorem Ext.seal1 {w w1 : Wd} {H H1 : Hp} {p : Addr} {o : HO} (e : Ext w H w1 H1) (n : H p = none) (nf : w1.F p = none) : Ext w H (w1.add p o) (upd H1 p o) where
  F := fun q u a => by
    show upd w1.F p o q = _
    have a := e.F q u a
    rw [upd_ne (fun z => by subst z; rw [nf] at a; cases a)]
    exact a
  al := e.al
  keep := fun q u a b => by
    rw [upd_ne (fun z => by subst z; rw [n] at a; cases a)]
    exact e.keep q u a b
  tr := fun q u a => by
    rw [upd_ne (fun z => by subst z; rw [n] at a; cases a)]
    exact e.tr q u a
  new := e.new
  frz := fun q u a => by
    have a : upd w1.F p o q = some u := a
    by_cases z : q = p
    · subst z; exact .inr n
    · rw [upd_ne z] at a; exact e.frz q u a
theorem Sim.seal1 {K : PySem.W.Frag} {w1 : Wd} {h1 : Heap} {H1 : Hp} {p : Addr} {o : HO} (S : Sim K fa w1 h1 H1) (nf : w1.F p = none) (na : p ∉ w1.al) : Sim K fa (w1.add p o) h1 (upd H1 p o) where
  sub := fun q u a => by
    have a : upd w1.F p o q = some u := a
    by_cases z : q = p
    · subst z; rw [upd_same] at a ⊢; exact a
    · rw [upd_ne z] at a ⊢; exact S.sub q u a
  nd := S.nd
  out := fun q m => by
    show upd w1.F p o q = none
    rw [upd_ne (fun z => by subst z; exact na m)]
    exact S.out q m
  len := S.len
  cell := fun i x a => by
    obtain ⟨q, e1, e2⟩ := S.cell i x a
    refine ⟨q, e1, ?_⟩
    rw [upd_ne (fun z => by subst z; exact na (List.mem_of_getElem? e1))]
    refine CellR.mono (w := w1) (w' := w1.add p o) (fun b u z => ?_) (fun _ _ z => z) e2
    show upd w1.F p o b = _
    rw [upd_ne (fun y => by subst y; rw [nf] at z; cases z)]
    exact z
/-- the pairs' readings -/
def tKs (fa : Fa) (XR : XRel) (c : Cl) (W : WX) (H0 : Hp) (X : Cx) : List Tx → Exs → List (TE × TE)
  | k :: ks, .cons a r => (tC (.str (toS k)), Lb.tE fa XR c W H0 X a) :: tKs fa XR c W H0 X ks r
  | _, _ => []
def kvsOf : List Tx → List V → List (Key × V)
  | k :: ks, v :: vs => (.inr (toS k), v) :: kvsOf ks vs
  | _, _ => []
theorem pairs_of {W : WX} {H0 : Hp} {τ : St} {σ : Fr} : ∀ {ks : List Tx} {es : Exs} {w : Wd} {h : Heap} {H : Hp} {Q : List (V × V) → Hp → Prop}, lenEs es = ks.length → Sim X.K fa w h H → SRep X.K fa H0 w H σ τ →
    Good X.K fa (fun w' _ vs ds => w'.RL X.K fa vs ds) XR W τ w H (evEs c σ es h) (fun vs H' => Q ((kvsOf ks vs).map fun kv => (kV kv.1, kv.2)) H') → tPairs (tKs fa XR c W H0 X ks es) τ H Q
  | [], .nil, w, h, H, Q, hl, S, SR, g => g w H [] Ext.refl S .nil
  | k :: ks, .cons a r, w, h, H, Q, hl, S, SR, g => by
    show tC (.str (toS k)) τ H fun x H1 => Lb.tE fa XR c W H0 X a τ H1 fun y H2 => tPairs (tKs fa XR c W H0 X ks r) τ H2 fun ps H3 => Q ((x, y) :: ps) H3
    refine ⟨w, h, σ, S, SR, Good.bind (f := fun x h1 => (evEs c σ r h1).bind fun xs h2 => R.ok (x :: xs) h2) g fun d h1 w1 H1 v ed e1 S1 r1 g1 => ?_⟩
    refine pairs_of (by simpa [lenEs] using hl) S1 (SR.ext e1) ?_
    exact Good.bind (f := fun xs h2 => R.ok (d :: xs) h2) g1 fun ds h2 w2 H2 vs _ e2 S2 r2 g2 => g2 w2 H2 _ Ext.refl S2 (.cons (e2.R r1) r2)
theorem evEs_len {σ : Fr} : ∀ {es : Exs} {h h1 : Heap} {ds : List D}, evEs c σ es h = .ok ds h1 → ds.length = lenEs es
  | .nil, h, h1, ds, e => by
    have e : R.ok [] h = R.ok ds h1 := e
    cases e; rfl
  | .cons a r, h, h1, ds, e => by
    have e : ((evE c σ a h).bind fun x h1 => (evEs c σ r h1).bind fun xs h2 => R.ok (x :: xs) h2) = R.ok ds h1 := e
    obtain ⟨y, h2, _, e⟩ := bind_ok e
    obtain ⟨ys, h3, e2, e⟩ := bind_ok e
    cases e
    exact congrArg (· + 1) (evEs_len e2)
theorem valV_no {k : Key} : ∀ {kvs : List (Key × V)}, k ∉ kvs.map (·.1) → valV kvs k = none
  | [], _ => rfl
  | p :: r, h => by
    rw [valV_neg fun e => h (by rw [← e]; exact List.mem_cons_self)]
    exact valV_no fun m => h (List.mem_cons_of_mem _ m)
theorem mergeK_new : ∀ {more kvs : List (Key × V)}, ((kvs ++ more).map (·.1)).Nodup → mergeK kvs more = kvs ++ more
  | [], kvs, _ => (List.append_nil kvs).symm
  | p :: r, kvs, h => by
    have h2 : ((kvs ++ [p] ++ r).map (·.1)).Nodup := by rw [List.append_assoc]; exact h
    have no : p.1 ∉ kvs.map (·.1) := fun m => by
      rw [List.map_append] at h
      exact (List.nodup_append.mp h).2.2 _ m p.1 List.mem_cons_self rfl
    show mergeK (putK kvs p.1 p.2) r = _
    rw [putK_new p.2 (valV_no no), mergeK_new h2, List.append_assoc]
    rfl
theorem kvsOf_keys : ∀ {ks : List Tx} {vs : List V}, vs.length = ks.length → (kvsOf ks vs).map (·.1) = ks.map fun k => (.inr (toS k) : Key)
  | [], [], _ => rfl
  | k :: ks, v :: vs, h => by
    show Sum.inr (toS k) :: (kvsOf ks vs).map (·.1) = _
    rw [kvsOf_keys (by simpa using h)]
    rfl
theorem keys_nodup : ∀ {ks : List Tx}, ks.Nodup → (ks.map fun k => (.inr (toS k) : Key)).Nodup
  | [], _ => List.nodup_nil
  | k :: ks, h => by
    rw [List.nodup_cons] at h
    rw [List.map_cons, List.nodup_cons]
    refine ⟨fun m => ?_, keys_nodup h.2⟩
    obtain ⟨j, hj, e⟩ := List.mem_map.mp m
    rw [toS_inj (Sum.inr.inj e)] at hj
    exact h.1 hj
theorem repK_of {K : PySem.W.Frag} {F : Hp} {al : List Addr} : ∀ {ks : List Tx} {vs : List V} {ds : List D}, ds.length = ks.length → RepL K fa F al vs ds → RepK K fa F al (kvsOf ks vs) (ks.zip ds)
  | [], _, [], _, .nil => .nil
  | k :: ks, _, d :: ds, h, .cons r t => .cons r (repK_of (by simpa using h) t)
theorem kvsOf_len : ∀ {ks : List Tx} {vs : List V}, vs.length = ks.length → (kvsOf ks vs).length = ks.length
  | [], [], _ => rfl
  | k :: ks, v :: vs, h => congrArg (· + 1) (kvsOf_len (by simpa using h))
theorem snd_dic {W : WX} {H0 : Hp} {ks : List Tx} {es : Exs} {us : List (Option Expr)} {vs : List Expr} {p : Pos} (h1 : ks.length ≤ 15) (h2 : ks.Nodup) (h3 : lenEs es = ks.length) (hp : PPs X p us vs (tKs fa XR c W H0 X ks es)) (hall : us.all (·.isSome) = true) (hl : us.length = vs.length) (hu : us.length = ks.length) :
    PE X (.Dict us vs p) (tX fa XR c W H0 X (.dic ks es)) := by
  have fin : ∀ {τ : St} {H : Hp} {Q : VK}, tX fa XR c W H0 X (.dic ks es) τ H Q → ∀ a, H a = none → tPairs (tKs fa XR c W H0 X ks es) τ (upd H a (.dK [])) fun ps H2 => H2 a = some (.dK []) ∧ ∃ kvs : List (Key × V), ps = kvs.map (fun kv => (kV kv.1, kv.2)) ∧ kvs.length ≤ 15 ∧ Q (.ref a) (upd H2 a (.dK (mergeK [] kvs))) := by
    rintro τ H Q ⟨w, h, σ, S, SR, g⟩ a ha
    have nF := S.noF ha
    have nA := S.noAl ha
    have E0 : Ext w H w (upd H a (.dK [])) := Ext.lay ha
    refine pairs_of h3 (S.lay ha) (SR.ext E0) ?_
    have g : Good X.K fa (RelF X.K fa .rep H) XR W τ w H ((evEs c σ es h).bind fun ds h1 => if ks.length = ds.length then R.ok (D.dic (ks.zip ds)) h1 else R.bad) Q := g
    cases e : evEs c σ es h with
    | bad => rw [e] at g; exact (show False from g).elim
    | ex k p h9 => rw [e] at g; exact fun w' H' cls dx e1 S1 r1 => g w' H' cls dx (E0.trans e1) S1 r1
    | ok ds h9 =>
      rw [e] at g
      have g : Good X.K fa (RelF X.K fa .rep H) XR W τ w H (if ks.length = ds.length then R.ok (D.dic (ks.zip ds)) h9 else R.bad) Q := g
      intro w1 H1 vs' e1 S1 r1
      have hd : ds.length = ks.length := (evEs_len e).trans h3
      rw [if_pos hd.symm] at g
      have lv : vs'.length = ks.length := r1.length.trans hd
      obtain ⟨o1, o2, o3⟩ := e1.own (o := .dK []) upd_same nA nF
      have nd : ((kvsOf ks vs').map (·.1)).Nodup := by rw [kvsOf_keys lv]; exact keys_nodup h2
      refine ⟨o1, kvsOf ks vs', rfl, by rw [kvsOf_len lv]; exact h1, ?_⟩
      rw [show mergeK [] (kvsOf ks vs') = kvsOf ks vs' from mergeK_new (kvs := []) nd]
      have e2 := (E0.trans e1).seal1 (o := .dK (kvsOf ks vs')) ha o3
      refine g _ _ _ e2 (S1.seal1 o3 o2) (show Wd.R _ _ _ _ _ from .dic (show upd w1.F a _ a = _ from upd_same) (RepK.mono (fun q u z => ?_) (fun _ _ z => z) (repK_of hd r1)))
      show upd w1.F a _ q = _
      rw [upd_ne (fun y => by subst y; rw [o3] at z; cases z)]
      exact z
  by_cases h0 : us = []
  · subst h0
    have hv : vs = [] := by
      cases vs with
      | nil => rfl
      | cons => cases hl
    have hk : ks = [] := by
      cases ks with
      | nil => rfl
      | cons => cases hu
    subst hv hk
    have he : es = .nil := by
      cases es with
      | nil => rfl
      | cons => cases h3
    subst he
    refine pe_dnewK.imp fun τ H Q q a ha => ?_
    obtain ⟨z1, kvs, z2, z3, z4⟩ := fin q a ha
    cases kvs with
    | nil =>
      have z4 : Q (.ref a) (upd (upd H a (.dK [])) a (.dK [])) := z4
      have e : upd (upd H a (.dK [])) a (.dK []) = upd H a (.dK []) := by
        funext b
        by_cases y : b = a
        · subst y; rw [upd_same, upd_same]
        · rw [upd_ne y]
      rw [e] at z4
      exact z4
    | cons => cases z2
  · exact (pe_disp hp hall hl h0 (by omega)).imp fun τ H Q q a ha => fin q a ha
theorem rd_mk {W : WX} {H0 : Hp} {a : Ex} {τ : St} {H : Hp} {Q : VK} (hf : form a = .new) : tX fa XR c W H0 X (.mk a) τ H Q → tX fa XR c W H0 X a τ H Q := fun ⟨w, h, σ, S, SR, g⟩ => ⟨w, h, σ, S, SR, by
    show Good X.K fa (RelF X.K fa (form a) H) XR W τ w H (evE c σ a h) Q
    rw [hf]
    have g : Good X.K fa (RelF X.K fa .rep H) XR W τ w H ((evE c σ a h).bind fun (x : D) h1 => match x with
      | D.lst xs => R.ok (D.cell h1.length) (h1 ++ [.lst xs])
      | _ => R.bad) Q := g
    cases e : evE c σ a h with
    | bad => rw [e] at g; exact (show False from g).elim
    | ex k p h1 => rw [e] at g; exact g
    | ok d h1 =>
    rw [e] at g
    intro w1 H1 v e1 S1 r1
    cases d with
    | lst xs =>
      rcases r1 with ⟨_, z⟩ | ⟨p, vs, ys, rfl, ey, q1, q2, q3, q4, q5⟩
      · exact absurd rfl (z xs)
      · cases ey
        have g0 : Good X.K fa (RelF X.K fa .rep H) XR W τ w H (R.ok (D.cell h1.length) (h1 ++ [.lst xs])) Q := g
        have hal : ∀ (i : Nat) b, w1.al[i]? = some b → (w1.al ++ [p])[i]? = some b := fun i b z => by
          rw [List.getElem?_append_left (List.getElem?_eq_some_iff.mp z).1]; exact z
        have nd : (w1.al ++ [p]).Nodup := by
          rw [List.nodup_append]
          refine ⟨S1.nd, by simp, fun a ha b hb => ?_⟩
          rw [List.mem_singleton.mp hb]
          exact fun z => q4 (by rw [← z]; exact ha)
        have ex : Ext w H ⟨w1.F, w1.al ++ [p]⟩ H1 := ⟨e1.F, fun i b z => hal i b (e1.al i b z), e1.keep, e1.tr, fun b m => (List.mem_append.mp m).elim (e1.new b) fun z => .inr (by rw [List.mem_singleton.mp z]; exact q5), e1.frz⟩
        have cm : ∀ {x : Cell} {o : Option HO}, CellR X.K fa w1 x o → CellR X.K fa ⟨w1.F, w1.al ++ [p]⟩ x o := fun z => CellR.mono (w := w1) (w' := ⟨w1.F, w1.al ++ [p]⟩) (fun _ _ z => z) hal z
        have Sx : Sim X.K fa ⟨w1.F, w1.al ++ [p]⟩ (h1 ++ [.lst xs]) H1 := {
          sub := S1.sub
          nd := nd
          out := fun b m => (List.mem_append.mp m).elim (S1.out b) fun z => by rw [List.mem_singleton.mp z]; exact q3
          len := by rw [List.length_append, List.length_append, S1.len]; rfl
          cell := fun i x z => by
            by_cases hi : i < h1.length
            · rw [List.getElem?_append_left hi] at z
              obtain ⟨b, y1, y2⟩ := S1.cell i x z
              exact ⟨b, hal i b y1, cm y2⟩
            · have hi2 : i = h1.length := by
                have := (List.getElem?_eq_some_iff.mp z).1
                rw [List.length_append, List.length_singleton] at this
                omega
              subst hi2
              rw [List.getElem?_append_right (Nat.le_refl _), Nat.sub_self] at z
              cases z
              refine ⟨p, ?_, ?_⟩
              · rw [S1.len, List.getElem?_append_right (Nat.le_refl _), Nat.sub_self]; rfl
              · rw [q1]; exact RepL.mono (fun _ _ z => z) hal q2 }
        exact g0 _ _ _ ex Sx (show Wd.R _ _ _ _ _ from .cell (by
          show (w1.al ++ [p])[h1.length]? = some p
          rw [S1.len, List.getElem?_append_right (Nat.le_refl _), Nat.sub_self]; rfl))
    | _ => exact (show False from g).elim⟩
theorem snd_mk {W : WX} {H0 : Hp} {a : Ex} {e : Expr} (hf : form a = .new) (ha : PE X e (tX fa XR c W H0 X a)) : PE X e (tX fa XR c W H0 X (.mk a)) := ha.imp fun τ H Q q => rd_mk hf q
end
end Lb
end
section
set_option Elab.async false
set_option linter.all false
set_option maxRecDepth 100000
namespace Lb
open PySem PySem.Spec PyProof.Rows L2
/-- keys as data -/
structure KD (κ : Type) [DecidableEq κ] where
  f : κ → D
  enc : κ → PyData
  heq : ∀ a b, eqv (f a) (f b) = decide (a = b)
  hlt : ∀ a b, lt (f a) (f b) = PySem.W.dataLt (enc a) (enc b)
  inj : ∀ a b, PySem.W.keyToks (enc a) = PySem.W.keyToks (enc b) → a = b
  alike : ∀ a b, PySem.W.alike (enc a) (enc b) = true
def once {κ : Type} [DecidableEq κ] : List κ → List κ
  | [] => []
  | x :: r => if x ∈ once r then once r else x :: once r
theorem once_mem {κ : Type} [DecidableEq κ] (k : κ) : ∀ l : List κ, k ∈ once l ↔ k ∈ l
  | [] => Iff.rfl
  | x :: r => by
    have ih := once_mem k r
    unfold once
    by_cases c : x ∈ once r
    · rw [if_pos c, List.mem_cons, ih]
      exact ⟨.inr, fun z => z.elim (fun e => by rw [e]; exact (once_mem x r).mp c) id⟩
    · rw [if_neg c, List.mem_cons, List.mem_cons, ih]
theorem once_nodup {κ : Type} [DecidableEq κ] : ∀ l : List κ, (once l).Nodup
  | [] => List.nodup_nil
  | x :: r => by
    unfold once
    by_cases c : x ∈ once r
    · rw [if_pos c]; exact once_nodup r
    · rw [if_neg c]; exact List.nodup_cons.mpr ⟨c, once_nodup r⟩
section
variable {κ : Type} [DecidableEq κ] (k : KD κ)
theorem KD.dedup : ∀ ks : List κ, dedup (ks.map k.f) = (once ks).map k.f
  | [] => rfl
  | x :: r => by
    have ih := KD.dedup r
    show (if (Lb.dedup (r.map k.f)).any (fun z => eqv z (k.f x)) then Lb.dedup (r.map k.f) else k.f x :: Lb.dedup (r.map k.f)) = _
    rw [ih]
    have e : ((once r).map k.f).any (fun z => eqv z (k.f x)) = decide (x ∈ once r) := by
      rw [List.any_map]
      by_cases c : x ∈ once r
      · rw [decide_eq_true c, List.any_eq_true]
        exact ⟨x, c, by show eqv (k.f x) (k.f x) = true; rw [k.heq]; exact decide_eq_true rfl⟩
      · rw [decide_eq_false c, List.any_eq_false]
        intro y m z
        have z : eqv (k.f y) (k.f x) = true := z
        rw [k.heq, decide_eq_true_eq] at z
        exact c (by rw [← z]; exact m)
    rw [e]
    show _ = (if x ∈ once r then once r else x :: once r).map k.f
    by_cases c : x ∈ once r
    · rw [if_pos (decide_eq_true c), if_pos c]
    · rw [if_neg (by simp [c]), if_neg c]
      rfl
theorem KD.le_eq (a b : κ) : PySem.W.dataLe false k.enc a b = !lt (k.f b) (k.f a) := by
  rw [k.hlt]
  rfl
theorem KD.total : PySem.W.TotalLe (PySem.W.dataLe false k.enc) := PySem.W.sortLe_total _ false _
/-- whatever the order in which they lay -/
theorem KD.sorted {ks ks' : List κ} (m : ∀ j, j ∈ ks' ↔ j ∈ ks) (nd : ks'.Nodup) : (ks'.mergeSort (PySem.W.dataLe false k.enc)).map k.f = sort (Lb.dedup (ks.map k.f)) := by
  have pm : ks'.Perm (once ks) := (List.perm_ext_iff_of_nodup nd (once_nodup ks)).mpr fun j => (m j).trans (once_mem j ks).symm
  have e1 : ks'.mergeSort (PySem.W.dataLe false k.enc) = (once ks).mergeSort (PySem.W.dataLe false k.enc) := by
    have T := k.total
    have tot : ∀ a b : κ, (PySem.W.dataLe false k.enc a b || PySem.W.dataLe false k.enc b a) = true := fun a b => by rw [Bool.or_eq_true]; exact T.total a b
    refine List.Perm.eq_of_pairwise (le := fun a b => PySem.W.dataLe false k.enc a b = true) (fun a b _ _ h1 h2 => ?_) (List.pairwise_mergeSort T.trans tot ks') (List.pairwise_mergeSort T.trans tot (once ks)) ?_
    · refine k.inj a b ?_
      have h1 : (!PySem.W.dataLt (k.enc b) (k.enc a)) = true := h1
      have h2 : (!PySem.W.dataLt (k.enc a) (k.enc b)) = true := h2
      rw [Bool.not_eq_true'] at h1 h2
      exact PyProof.Rows.lex_total _ _ h2 h1
    · exact (List.mergeSort_perm _ _).trans (pm.trans (List.mergeSort_perm _ _).symm)
  rw [e1, KD.dedup]
  unfold sort
  exact List.map_mergeSort fun a _ b _ => k.le_eq a b
theorem KD.count {ks ks' : List κ} (m : ∀ j, j ∈ ks' ↔ j ∈ ks) (nd : ks'.Nodup) : ks'.length = (Lb.dedup (ks.map k.f)).length := by
  have pm : ks'.Perm (once ks) := (List.perm_ext_iff_of_nodup nd (once_nodup ks)).mpr fun j => (m j).trans (once_mem j ks).symm
  rw [KD.dedup, List.length_map]
  exact pm.length_eq
end
def fStr (x : Str) : D := .str x.cps.toList
def textKD : KD Str where
  f := fStr
  enc := .str
  heq := fun a b => by
    show (a.cps.toList == b.cps.toList) = _
    by_cases e : a = b
    · subst e; simp
    · rw [decide_eq_false e]
      simp only [beq_eq_false_iff_ne]
      exact fun z => e (PySem.W.str_of_cps z)
  hlt := fun a b => (PySem.W.dataLt_str a b).symm
  inj := fun a b h => by
    have h : [Sum.inr a.cps.toList] = ([Sum.inr b.cps.toList] : List (Int ⊕ List Nat)) := h
    simp only [List.cons.injEq, Sum.inr.injEq, and_true] at h
    exact PySem.W.str_of_cps h
  alike := fun a b => by simp [PySem.W.alike]
def intKD : KD Int where
  f := .int
  enc := .int
  heq := fun a b => by
    show (a == b) = _
    rw [Bool.eq_iff_iff]
    simp
  hlt := fun a b => (PySem.W.dataLt_int a b).symm
  inj := fun a b h => by
    have h : [Sum.inl a] = ([Sum.inl b] : List (Int ⊕ List Nat)) := h
    simpa using h
  alike := fun a b => by simp [PySem.W.alike]
theorem toks_strs : ∀ {a b : List Str}, PySem.W.keyToksAll (a.map PyData.str) = PySem.W.keyToksAll (b.map PyData.str) → a = b
  | [], [], _ => rfl
  | [], y :: b, h => by simp [PySem.W.keyToksAll] at h
  | x :: a, [], h => by simp [PySem.W.keyToksAll] at h
  | x :: a, y :: b, h => by
    simp only [List.map_cons, PySem.W.keyToksAll, PySem.W.keyToks, List.cons_append, List.nil_append, List.cons.injEq, true_and, Sum.inr.injEq] at h
    rw [PySem.W.str_of_cps h.1, toks_strs h.2]
theorem eqvL_strs : ∀ a b : List Str, eqvL (a.map fStr) (b.map fStr) = decide (a = b)
  | [], [] => by simp [eqvL]
  | [], y :: b => by simp [eqvL]
  | x :: a, [] => by simp [eqvL]
  | x :: a, y :: b => by
    show (eqv (fStr x) (fStr y) && eqvL (a.map fStr) (b.map fStr)) = _
    rw [eqvL_strs a b, show eqv (fStr x) (fStr y) = decide (x = y) from textKD.heq x y, Bool.eq_iff_iff]
    simp
theorem alikeAll_strs : ∀ a b : List Str, PySem.W.alikeAll (a.map PyData.str) (b.map PyData.str) = true
  | [], _ => by simp [PySem.W.alikeAll]
  | x :: a, [] => by simp [PySem.W.alikeAll]
  | x :: a, y :: b => by
    rw [List.map_cons, List.map_cons, PySem.W.alikeAll, alikeAll_strs a b]
    simp [PySem.W.alike]
theorem ltL_strs : ∀ a b : List Str, ltL (a.map fStr) (b.map fStr) = PyProof.Rows.lexLt PyProof.Rows.itemOrd (PySem.W.keyToksAll (a.map PyData.str)) (PySem.W.keyToksAll (b.map PyData.str))
  | [], [] => by
    show false = _
    exact (PyProof.Rows.lex_irrefl _).symm
  | [], y :: b => by
    show true = _
    rw [List.map_nil, List.map_cons, PySem.W.keyToksAll, PySem.W.keyToksAll, PyProof.Rows.lex_diff (by decide)]
    rfl
  | x :: a, [] => by
    show false = _
    rw [List.map_nil, List.map_cons, PySem.W.keyToksAll, PySem.W.keyToksAll, PyProof.Rows.lex_diff (by decide)]
    rfl
  | x :: a, y :: b => by
    rw [List.map_cons (f := PyData.str), List.map_cons (f := PyData.str), PySem.W.dataLt_cons (by simp [PySem.W.alike])]
    show (if eqv (fStr x) (fStr y) then ltL (a.map fStr) (b.map fStr) else lt (fStr x) (fStr y)) = _
    rw [ltL_strs a b, show eqv (fStr x) (fStr y) = decide (x = y) from textKD.heq x y, show lt (fStr x) (fStr y) = PySem.W.dataLt (.str x) (.str y) from textKD.hlt x y]
    have e : PyData.eqv (.str x) (.str y) = decide (x = y) := by
      simp [PyData.eqv]
      rfl
    rw [e]
def tupKD : KD (List Str) where
  f := fun ks => .tup (ks.map fStr)
  enc := fun ks => .tuple (ks.map .str)
  heq := eqvL_strs
  hlt := fun a b => (ltL_strs a b).trans (PySem.W.dataLt_tuple _ _).symm
  inj := fun a b h => toks_strs h
  alike := fun a b => by
    show PySem.W.alike (.tuple (a.map PyData.str)) (.tuple (b.map PyData.str)) = true
    rw [PySem.W.alike]
    exact alikeAll_strs a b
end Lb
end
section
set_option Elab.async false
set_option linter.all false
set_option maxRecDepth 100000
namespace Lb
open PySem PySem.Spec PyProof.Rows L2 Lb.Sets
section
variable {X : Cx} {fa : Fa} {pins : List (Addr × Obj)} {σ : St} {H : Hp} {s : Shared}
theorem each_vals {κ : Type} {T : SK X.prog X.w κ} {h : PySem.Heap} {F : Hp} {al : List Addr} {f : κ → D} (hG : ∀ h j v, T.is h j v → ∃ x, RelV x v ∧ Rep X.K fa F al x (f j)) : ∀ {vs : List Value} {L : List κ}, PySem.W.EachIs (fun v k => T.is h k v) vs L → ∃ ys, Vals ys vs ∧ RepL X.K fa F al ys (L.map f)
  | _, _, .nil => ⟨[], .nil, .nil⟩
  | _, _, .cons a t => by
    obtain ⟨x, r, p⟩ := hG _ _ _ a
    obtain ⟨ys, r2, p2⟩ := each_vals hG t
    exact ⟨x :: ys, .cons r r2, .cons p p2⟩
theorem sset_run (I : Inv X pins σ H s) (hc : X.calm = true) {κ : Type} [DecidableEq κ] (T : SK X.prog X.w κ) (k : KD κ) (he : T.enc = k.enc) {F : Hp} {al : List Addr} (hG : ∀ h j v, T.is h j v → ∃ x, RelV x v ∧ Rep X.K fa F al x (k.f j)) {l : Addr} {its : Array Value} {ks : List κ}
    (hl : s.heap.IsList l its) (sz : its.size = ks.length) (isk : ∀ (i : Nat) v, its[i]? = some v → ∃ j, ks[i]? = some j ∧ T.is s.heap j v) (few : ks.length < 64) (so : PySem.W.Sortable (ks.map k.enc)) (dp : ∀ j, j ∈ ks → (k.enc j).depth ≤ 2) (un : X.A.units + 65 < cLine) {Q : VK}
    (q : ∀ p ys, H p = none → RepL X.K fa F al ys (sort (dedup (ks.map k.f))) → Q (.ref p) (upd H p (.lst ys))) :
    wpAny (model X.prog X.w) X.A (call (.type "set") [.ref l]) (fun v s2 => wpAny (model X.prog X.w) X.A (call (.builtin "sorted") [v]) (EP X pins σ Q) X.xe s2) X.xe s := by
  refine call_set T ks (I.ok.hd hc) hl sz isk few (by omega) fun h' tk L hL g kp => ?_
  have mem : ∀ j, j ∈ L ↔ j ∈ ks := fun j => by rw [g.mem, List.take_length]
  have I2 : Inv X pins σ H { s with heap := h', toks := tk } := I.kept kp
  have sub : ∀ {x : PyData}, x ∈ L.map T.enc → x ∈ ks.map k.enc := fun {x} hx => by
    obtain ⟨j, mj, rfl⟩ := List.mem_map.mp hx
    rw [he]
    exact List.mem_map.mpr ⟨j, (mem j).mp mj, rfl⟩
  refine Lb.Sets.sorted_set (s := { s with heap := h', toks := tk }) T hL kp (I.ok.hd hc) (Nat.lt_of_le_of_lt g.len few) (fun x hx y hy => ?_) ?_ (fun j mj => ?_) fun s' p out c ks' kp2 gs os zs gp pm eo => ?_
  · obtain ⟨a, _, rfl⟩ := List.mem_map.mp hx
    obtain ⟨b, _, rfl⟩ := List.mem_map.mp hy
    rw [he]
    exact k.alike a b
  · rcases so with so | so
    · exact .inl fun x hx => so x (sub hx)
    · exact .inr fun x hx => so x (sub hx)
  · have := dp j ((mem j).mp mj)
    rw [he]
    omega
  · rw [he] at eo
    obtain ⟨ys, hv, hr⟩ := each_vals hG eo
    rw [k.sorted (fun j => (pm.mem_iff).trans (mem j)) ((pm.nodup_iff).mpr (T.nd hL))] at hr
    have hn : H p = none := I2.hok.fresh zs
    have lim : ys.length ≤ sizeLine := by
      have l1 := hv.length
      have l2 := pm.length_eq
      have l3 := g.len
      have l4 : out.length = ks'.length := by rw [eo.length, List.length_mergeSort]
      rw [l1, l4, l2, sizeLine_eq]
      omega
    have J : Inv X pins σ (upd H p (.lst ys)) ⟨s'.heap, s'.gens, s'.drawn, s'.toks, s.os⟩ :=
      Inv.call (s := { s with heap := h', toks := tk }) (h' := s'.heap) (g' := s'.gens) (d' := s'.drawn) (t' := s'.toks) (ch := []) I2 (Un.laid kp2 zs hn) (I2.hok.laid kp2 zs ⟨lim, out, c, hv, gp⟩) (by rw [gs]; exact I2.bare) (fun _ z => nomatch z)
    have e : s' = ⟨s'.heap, s'.gens, s'.drawn, s'.toks, s.os⟩ := by
      cases s'
      cases s
      cases os
      rfl
    rw [e]
    exact ⟨.ref p, _, J, rfl, q p ys hn hr⟩
theorem lset_run (I : Inv X pins σ H s) (hc : X.calm = true) {κ : Type} [DecidableEq κ] (T : SK X.prog X.w κ) (k : KD κ) {l : Addr} {its : Array Value} {ks : List κ}
    (hl : s.heap.IsList l its) (sz : its.size = ks.length) (isk : ∀ (i : Nat) v, its[i]? = some v → ∃ j, ks[i]? = some j ∧ T.is s.heap j v) (few : ks.length < 64) (un : X.A.units + 65 < cLine) {Q : VK}
    (q : Q (.int (dedup (ks.map k.f)).length) H) :
    wpAny (model X.prog X.w) X.A (call (.type "set") [.ref l]) (fun v s2 => wpAny (model X.prog X.w) X.A (call (.builtin "len") [v]) (EP X pins σ Q) X.xe s2) X.xe s := by
  refine call_set T ks (I.ok.hd hc) hl sz isk few (by omega) fun h' tk L hL g kp => ?_
  have mem : ∀ j, j ∈ L ↔ j ∈ ks := fun j => by rw [g.mem, List.take_length]
  have I2 : Inv X pins σ H { s with heap := h', toks := tk } := I.kept kp
  obtain ⟨es, ep, t, ⟨o, ho, ex, d⟩, fit, sc, ri, ld, Lr, l1, l2, l3⟩ := T.out hL
  have n : es.size = (dedup (ks.map k.f)).length := by
    have a1 := l2.length_eq
    have a2 := l1.length_eq
    rw [List.length_map, List.length_map, Array.length_toList] at a1
    rw [List.length_map] at a2
    rw [a1, a2, k.count mem (T.nd hL)]
  refine call_len_set ho ex d fit (by have h9 := sc; unfold scanBound at h9; omega) ⟨.int (dedup (ks.map k.f)).length, H, I2.tok _, ⟨_, by rw [n]⟩, q⟩
end
end Lb
end
section
set_option Elab.async false
set_option linter.all false
set_option maxRecDepth 100000
namespace Lb
open PySem PySem.Spec PyProof.Rows L2 Lb.Sets
section
variable {P : Program} {w : World} {K : PySem.W.Frag} {fa : Fa} {F : Hp} {al : List Addr}
theorem rd_str {h : PySem.Heap} {k : Str} {v : Value} (e : (PySem.strKind P w).is k v = true) : Reads h v (.str k) [] := by
  have e : Value.isStrOf k v = true := e
  cases v <;> first | (simp [Value.isStrOf] at e; done) | skip
  rename_i y t
  simp [Value.isStrOf] at e
  subst e
  exact .str _ _
theorem rd_int {h : PySem.Heap} {k : Int} {v : Value} (e : (PySem.intKind P w).is k v = true) : Reads h v (.int k) [] := by
  obtain ⟨t, rfl⟩ := Value.isInt_shape e
  exact .int _ _
theorem isS_is (x : Tx) (u : Nat) : (PySem.strKind P w).is (toS x) (.str (toS x) u) = true := by
  show Value.isStrOf (toS x) (.str (toS x) u) = true
  simp [Value.isStrOf]
theorem isI_is (n : Int) (u : Nat) : (PySem.intKind P w).is n (.int n u) = true := by
  show Value.isInt n (.int n u) = true
  simp [Value.isInt]
/-- keys of data -/
def keyS : D → Str
  | .str x => toS x
  | _ => Str.empty
def keyI : D → Int
  | .int i => i
  | _ => 0
def keyT : D → List Str
  | .tup ds => ds.map keyS
  | _ => []
theorem keyS_f {d : D} (h : isS d = true) : fStr (keyS d) = d := by
  cases d <;> first | (simp [isS] at h; done) | skip
  rename_i x
  show D.str (toS x).cps.toList = _
  rw [toS_list]
theorem keysS_f : ∀ {xs : List D}, xs.all isS = true → xs.map (fun d => fStr (keyS d)) = xs
  | [], _ => rfl
  | d :: r, h => by
    rw [List.all_cons, Bool.and_eq_true] at h
    rw [List.map_cons, keyS_f h.1, keysS_f h.2]
theorem keysI_f : ∀ {xs : List D}, xs.all isI = true → xs.map (fun d => D.int (keyI d)) = xs
  | [], _ => rfl
  | d :: r, h => by
    rw [List.all_cons, Bool.and_eq_true] at h
    rw [List.map_cons, keysI_f h.2]
    cases d <;> first | rfl | (simp [isI] at h; done)
theorem isTS_tup {d : D} (h : isTS d = true) : ∃ ds, d = .tup ds := by
  cases d <;> first | exact ⟨_, rfl⟩ | (simp [isTS] at h; done)
theorem isS_str {d : D} (h : isS d = true) : ∃ x, d = .str x := by
  cases d <;> first | exact ⟨_, rfl⟩ | (simp [isS] at h; done)
theorem isI_int {d : D} (h : isI d = true) : ∃ x, d = .int x := by
  cases d <;> first | exact ⟨_, rfl⟩ | (simp [isI] at h; done)
theorem isTS_all {ds : List D} (h : isTS (.tup ds) = true) : ds.all isS = true ∧ ds ≠ [] := by
  cases ds with
  | nil => cases h
  | cons x xs => exact ⟨h, List.cons_ne_nil _ _⟩
theorem keysT_f : ∀ {xs : List D}, xs.all isTS = true → xs.map (fun d => D.tup ((keyT d).map fStr)) = xs
  | [], _ => rfl
  | d :: r, h => by
    rw [List.all_cons, Bool.and_eq_true] at h
    rw [List.map_cons, keysT_f h.2]
    obtain ⟨ds, rfl⟩ := isTS_tup h.1
    show D.tup ((ds.map keyS).map fStr) :: r = _
    rw [List.map_map]
    have z := keysS_f (isTS_all h.1).1
    rw [show ds.map (fStr ∘ keyS) = ds from z]
theorem vals_get : ∀ {vs : List V} {us : List Value}, Vals vs us → ∀ (i : Nat) u, us[i]? = some u → ∃ v, vs[i]? = some v ∧ RelV v u
  | _, _, .nil, i, u, e => by simp at e
  | _, _, .cons r _, 0, u, e => by simp at e; subst e; exact ⟨_, rfl, r⟩
  | _, _, .cons _ t, i + 1, u, e => by
    obtain ⟨v, a, b⟩ := vals_get t i u (by simpa using e)
    exact ⟨v, by simpa using a, b⟩
theorem items_str {h : PySem.Heap} : ∀ {ds : List D} {vs : List V} {us : List Value}, ds.all isS = true → RepL K fa F al vs ds → Vals vs us → ItemsAre (PySem.strKind P w) (ds.map keyS) us
  | _, _, _, _, .nil, .nil => .nil
  | d :: ds, _, _, hs, .cons r t, .cons rv tv => by
    rw [List.all_cons, Bool.and_eq_true] at hs
    refine .cons ?_ (items_str (h := h) hs.2 t tv)
    obtain ⟨x, rfl⟩ := isS_str hs.1
    cases r
    obtain ⟨k, rfl⟩ := rv
    exact isS_is x k
end
section
variable {X : Cx} {fa : Fa}
abbrev GS (X : Cx) (fa : Fa) (F : Hp) (al : List Addr) {κ : Type} (f : κ → D) : κ → Value → Prop := fun j v => ∃ x, RelV x v ∧ Rep X.K fa F al x (f j)
/-- what each kind of things asks -/
theorem by_kind {pins : List (Addr × Obj)} {σ : St} {H : Hp} {s : Shared} {F : Hp} {al : List Addr} (I : Inv X pins σ H s) (hs : ∀ p o, F p = some o → H p = some o) {xs : List D} {vs : List V} {us : List Value} (hx : canSet xs = true) (r : RepL X.K fa F al vs xs) (rv : Vals vs us) {G : Prop}
    (go : ∀ (κ : Type) [DecidableEq κ] (T : SK X.prog X.w κ) (k : KD κ) (ks : List κ), T.enc = k.enc → (∀ h j v, T.is h j v → ∃ x, RelV x v ∧ Rep X.K fa F al x (k.f j)) → us.toArray.size = ks.length → (∀ (i : Nat) v, us.toArray[i]? = some v → ∃ j, ks[i]? = some j ∧ T.is s.heap j v) →
      ks.length < 64 → PySem.W.Sortable (ks.map k.enc) → (∀ j, j ∈ ks → (k.enc j).depth ≤ 2) → ks.map k.f = xs → G) : G := by
  unfold canSet at hx
  rw [Bool.and_eq_true, Bool.or_eq_true, Bool.or_eq_true, decide_eq_true_eq] at hx
  obtain ⟨few, hx⟩ := hx
  have len : us.toArray.size = xs.length := by rw [List.size_toArray, ← rv.length, r.length]
  have at_ : ∀ (i : Nat) v, us.toArray[i]? = some v → ∃ x d, RelV x v ∧ xs[i]? = some d ∧ Rep X.K fa F al x d := fun i v e => by
    obtain ⟨x, e1, r1⟩ := vals_get rv i v (by simpa using e)
    obtain ⟨d, e2, r2⟩ := r.get' e1
    exact ⟨x, d, r1, e2, r2⟩
  have mem : ∀ {p : D → Bool}, xs.all p = true → ∀ {i : Nat} {d : D}, xs[i]? = some d → p d = true := fun {p} h {i d} e => List.all_eq_true.mp h d (List.mem_of_getElem? e)
  rcases hx with (hx | hx) | hx
  · refine go _ (flatSets (PySem.strKind X.prog X.w) (GS X fa F al fStr) .str rd_str) textKD (xs.map keyS) rfl (fun h j v z => z.2.2) (by rw [len, List.length_map]) (fun i v e => ?_) (by rw [List.length_map]; exact few) (.inr fun d hd => ?_) (fun j mj => by show 0 ≤ 2; omega) ?_
    · obtain ⟨x, d, r1, e2, r2⟩ := at_ i v e
      have hd := mem hx e2
      refine ⟨keyS d, by rw [List.getElem?_map, e2]; rfl, ?_, ?_, x, r1, ?_⟩
      · obtain ⟨y, rfl⟩ := isS_str hd
        cases r2
        obtain ⟨k, rfl⟩ := r1
        exact isS_is y k
      · obtain ⟨y, rfl⟩ := isS_str hd
        cases r2
        obtain ⟨k, rfl⟩ := r1
        rfl
      · rw [keyS_f hd]; exact r2
    · obtain ⟨j, _, rfl⟩ := List.mem_map.mp hd
      exact ⟨(fun z => nomatch z), (fun _ z => nomatch z)⟩
    · rw [List.map_map]
      exact keysS_f hx
  · refine go _ (flatSets (PySem.intKind X.prog X.w) (GS X fa F al D.int) .int rd_int) intKD (xs.map keyI) rfl (fun h j v z => z.2.2) (by rw [len, List.length_map]) (fun i v e => ?_) (by rw [List.length_map]; exact few) (.inr fun d hd => ?_) (fun j mj => by show 0 ≤ 2; omega) ?_
    · obtain ⟨x, d, r1, e2, r2⟩ := at_ i v e
      have hd := mem hx e2
      obtain ⟨n, rfl⟩ := isI_int hd
      cases r2
      obtain ⟨k, rfl⟩ := r1
      refine ⟨n, by rw [List.getElem?_map, e2]; rfl, ?_, rfl, .int n, ⟨k, rfl⟩, .int n⟩
      exact isI_is n k
    · obtain ⟨j, _, rfl⟩ := List.mem_map.mp hd
      exact ⟨(fun z => nomatch z), (fun _ z => nomatch z)⟩
    · rw [List.map_map]
      exact keysI_f hx
  · refine go _ (tupSets (PySem.strKind X.prog X.w) (GS X fa F al fun ks => .tup (ks.map fStr)) .str rd_str) tupKD (xs.map keyT) rfl (fun h j v z => z.2) (by rw [len, List.length_map]) (fun i v e => ?_) (by rw [List.length_map]; exact few) (.inl fun d hd => ?_) (fun j mj => ?_) ?_
    · obtain ⟨x, d, r1, e2, r2⟩ := at_ i v e
      have hd := mem hx e2
      refine ⟨keyT d, by rw [List.getElem?_map, e2]; rfl, ?_, x, r1, ?_⟩
      · obtain ⟨ds, rfl⟩ := isTS_tup hd
        cases r2 with
        | tup q1 q2 =>
          rename_i a vs'
          obtain rfl : v = .ref a := r1
          obtain ⟨its, rv2, ⟨o, ho, hc, n, hd2⟩, _⟩ := I.tuple (sqT_mono hs q1)
          exact ⟨a, rfl, o, its.toArray, n, ho, hc, hd2, items_str (h := s.heap) (isTS_all hd).1 q2 rv2⟩
      · have z := keysT_f (xs := [d]) (by rw [List.all_cons, hd]; rfl)
        rw [List.map_cons] at z
        have z2 : D.tup ((keyT d).map fStr) = d := (List.cons.inj z).1
        show Rep X.K fa F al x (D.tup ((keyT d).map fStr))
        rw [z2]
        exact r2
    · obtain ⟨j, mj, rfl⟩ := List.mem_map.mp hd
      obtain ⟨d0, md, rfl⟩ := List.mem_map.mp mj
      have h0 := List.all_eq_true.mp hx d0 md
      obtain ⟨ds, rfl⟩ := isTS_tup h0
      cases ds with
      | nil => cases h0
      | cons y ys => exact ⟨_, _, rfl⟩
    · show (PyData.tuple (j.map PyData.str)).depth ≤ 2
      have z : ∀ l : List Str, PyData.depthAll (l.map PyData.str) = 0 := fun l => by
        induction l with
        | nil => rfl
        | cons x l ih => rw [List.map_cons, PyData.depthAll, ih]; rfl
      rw [PyData.depth, z]
      omega
    · rw [List.map_map]
      exact keysT_f hx
def Lsd : D → List D
  | .lst xs => xs
  | _ => []
theorem bSset_of {d z : D} (h : bSset d = some z) : ∃ xs, d = .lst xs ∧ canSet xs = true ∧ z = .lst (sort (dedup xs)) := by
  cases d <;> first | (simp [bSset] at h; done) | skip
  rename_i xs
  have h : (if canSet xs then some (D.lst (sort (dedup xs))) else none) = some z := h
  obtain ⟨h1, h2⟩ := ite_some h
  exact ⟨xs, rfl, h1, h2.symm⟩
theorem bLset_of {d z : D} (h : bLset d = some z) : ∃ xs, d = .lst xs ∧ canSet xs = true ∧ z = .int (dedup xs).length := by
  cases d <;> first | (simp [bLset] at h; done) | skip
  rename_i xs
  have h : (if canSet xs then some (D.int (dedup xs).length) else none) = some z := h
  obtain ⟨h1, h2⟩ := ite_some h
  exact ⟨xs, rfl, h1, h2.symm⟩
section
variable {XR : XRel} {c : Cl} {W : WX} {H0 : Hp} {T : Tb} {n : Nat} {N : List Str} {sc : Scope} {sto : Sto}
theorem snd_sset (ok : Cok T fa XR c n N sc sto X) {a : Ex} {x y : Str} {e : Expr} {p1 p2 p3 p4 : Pos} (h1 : x = ("sorted" : Str)) (h2 : glob sc x = true) (h3 : y = ("set" : Str)) (h4 : glob sc y = true) (hs : unstar e = true) (ha : PE X e (Lb.tB fa XR c W H0 X a)) :
    PE X (.Call (.Name x p1) [.Call (.Name y p2) [e] [] p3] [] p4) (tX fa XR c W H0 X (.sset a)) := by
  subst h1 h3
  refine ⟨fun pins s σ H Q I h => ?_⟩
  refine Call_ (ld_blt I (glob_of ok.sc h2) (ok.g.free _ (by decide)) PyProof.Rows.boot_sorted ?_)
  refine PyProof.Rows.callWith_builtin1 (PyProof.Rows.args_cons ?_ rfl) rfl rfl
  refine Call_ (ld_blt I (glob_of ok.sc h4) (ok.g.free _ (by decide)) PyProof.Rows.boot_set ?_)
  obtain ⟨w, hh, sg, S, SR, g⟩ := h
  refine PyProof.Rows.callWith_type1 (PyProof.Rows.args_cons (thn (ha.run pins s σ H _ I ⟨w, hh, sg, S, SR, Good.bind (f := fun x h1 => R.of h1 (bSset (rd h1 x))) (T := fun v H1 => ∃ (w1 : Wd) (h1 : Heap) (xs : List D) (l : Addr) (vs : List V), v = .ref l ∧ Sim X.K fa w1 h1 H1 ∧ H1 l = some (.lst vs) ∧ RepL X.K fa w1.F w1.al vs xs ∧ canSet xs = true ∧
      ∀ p ys, H1 p = none → RepL X.K fa w1.F w1.al ys (sort (dedup xs)) → Q (.ref p) (upd H1 p (.lst ys))) g fun d h1 w1 H1 v _ e1 S1 r1 g1 => ?_⟩) fun v s1 ⟨xv, H1, I1, r1, w1, h1, xs, l, vs, ex, S1, hl, hr, cs, q⟩ => PyProof.Rows.args_nil ?_) (star_ok hs)) (star_ok hs) rfl
  · cases ez : bSset (rd h1 d) with
    | none => rw [ez] at g1; exact (show False from g1).elim
    | some z =>
      rw [ez] at g1
      obtain ⟨xs, e2, cs, rfl⟩ := bSset_of ez
      have vp := r1.vp S1
      rw [e2] at vp
      obtain ⟨l, vs, rfl, hl, hr⟩ := vp.list S1.sub
      refine ⟨w1, h1, xs, l, vs, rfl, S1, hl, hr, cs, fun p ys hp rl => ?_⟩
      obtain ⟨w3, e3, S3, n3⟩ := (Res.lst (K := X.K) (fa := fa) hp rl).toN S1 e1
      exact g1 w3 _ _ e3 S3 n3
  · subst ex
    cases r1
    obtain ⟨its, rv, pl, hz⟩ := I1.list (SqL.of hl)
    refine by_kind I1 S1.sub cs hr rv fun κ inst T k ks he hG sz isk few so dp em => ?_
    have go := sset_run I1 ok.calm T k he hG pl.isList sz isk few so dp ok.un (Q := Q) fun p ys hp rl => q p ys hp (by rw [← em]; exact rl)
    refine wpAny_mono go (fun u s2 h2 => PyProof.Rows.args_nil h2) fun _ _ z => z
theorem snd_lset (ok : Cok T fa XR c n N sc sto X) {a : Ex} {x y : Str} {e : Expr} {p1 p2 p3 p4 : Pos} (h1 : x = ("len" : Str)) (h2 : glob sc x = true) (h3 : y = ("set" : Str)) (h4 : glob sc y = true) (hs : unstar e = true) (ha : PE X e (Lb.tB fa XR c W H0 X a)) :
    PE X (.Call (.Name x p1) [.Call (.Name y p2) [e] [] p3] [] p4) (tX fa XR c W H0 X (.lset a)) := by
  subst h1 h3
  refine ⟨fun pins s σ H Q I h => ?_⟩
  refine Call_ (ld_blt I (glob_of ok.sc h2) (ok.g.free _ (by decide)) PySem.boot_len ?_)
  refine PyProof.Rows.callWith_builtin1 (PyProof.Rows.args_cons ?_ rfl) rfl rfl
  refine Call_ (ld_blt I (glob_of ok.sc h4) (ok.g.free _ (by decide)) PyProof.Rows.boot_set ?_)
  obtain ⟨w, hh, sg, S, SR, g⟩ := h
  refine PyProof.Rows.callWith_type1 (PyProof.Rows.args_cons (thn (ha.run pins s σ H _ I ⟨w, hh, sg, S, SR, Good.bind (f := fun x h1 => R.of h1 (bLset (rd h1 x))) (T := fun v H1 => ∃ (w1 : Wd) (h1 : Heap) (xs : List D) (l : Addr) (vs : List V), v = .ref l ∧ Sim X.K fa w1 h1 H1 ∧ H1 l = some (.lst vs) ∧ RepL X.K fa w1.F w1.al vs xs ∧ canSet xs = true ∧
      Q (.int (dedup xs).length) H1) g fun d h1 w1 H1 v _ e1 S1 r1 g1 => ?_⟩) fun v s1 ⟨xv, H1, I1, r1, w1, h1, xs, l, vs, ex, S1, hl, hr, cs, q⟩ => PyProof.Rows.args_nil ?_) (star_ok hs)) (star_ok hs) rfl
  · cases ez : bLset (rd h1 d) with
    | none => rw [ez] at g1; exact (show False from g1).elim
    | some z =>
      rw [ez] at g1
      obtain ⟨xs, e2, cs, rfl⟩ := bLset_of ez
      have vp := r1.vp S1
      rw [e2] at vp
      obtain ⟨l, vs, rfl, hl, hr⟩ := vp.list S1.sub
      exact ⟨w1, h1, xs, l, vs, rfl, S1, hl, hr, cs, g1 w1 _ _ Ext.refl S1 (show Wd.R _ _ _ _ _ from .int _)⟩
  · subst ex
    cases r1
    obtain ⟨its, rv, pl, hz⟩ := I1.list (SqL.of hl)
    refine by_kind I1 S1.sub cs hr rv fun κ inst T k ks he hG sz isk few so dp em => ?_
    have go := lset_run I1 ok.calm T k pl.isList sz isk few ok.un (Q := Q) (by rw [em]; exact q)
    refine wpAny_mono go (fun u s2 h2 => PyProof.Rows.args_nil h2) fun _ _ z => z
end
end
end Lb
end
section
set_option Elab.async false
set_option linter.all false
set_option maxRecDepth 100000
namespace Lb.Sets
open PySem PySem.Spec PyProof.Rows L2
section
variable {P : Program} {w : World} {A : Around} {E : Value → Shared → Prop} {s : Shared}
theorem args_sum2 (a b : Value) : argsOk "sum" ⟨[a, b], []⟩ := by
  unfold argsOk
  kernel_rfl
abbrev LstAt (h : PySem.Heap) (a : Addr) (xs : List Value) : Prop := ∃ k, h.get? a = some { cls := .type "list", data := .seq xs.toArray k }
theorem flat_take {us : List (List Value)} {i : Nat} {xs : List Value} (h : us[i]? = some xs) : (us.take (i + 1)).flatten = (us.take i).flatten ++ xs := by
  rw [take_one h, List.flatten_append]
  simp
theorem flat_len (us : List (List Value)) (i : Nat) : (us.take i).flatten.length ≤ us.flatten.length := by
  have h : us.flatten = (us.take i).flatten ++ (us.drop i).flatten := by rw [← List.flatten_append, List.take_append_drop]
  rw [h, List.length_append]
  omega
theorem sum_on {I : Addr} {fp wr : List Addr} {n : Nat} {Pv : Nat → Value → Prop} {St : Nat → Shared → Prop} {R : Result → Shared → Prop} (W : WalksS P w A.in1 I fp wr (fun a b => b = a) n Pv St) (S : Addr) (hS : S ∉ fp) (us : List (List Value)) (en : n = us.length)
    (h0 : PySem.Heap) (isl : ∀ i v, Pv i v → ∃ a xs, us[i]? = some xs ∧ v = .ref a ∧ LstAt h0 a xs) (S0 : h0.get? S = none) (wr0 : ∀ b ∈ wr, h0.get? b = none) (fpS : ∀ b ∈ fp, b < S) (lim : us.flatten.length ≤ sizeLine) :
    ∀ (m i : Nat) (s : Shared) (t : Addr) (c : Nat), n - i = m → i ≤ n → St i s → Keeps h0 s.heap → s.heap.get? S = some { cls := .type "list", dict := none, data := .seq #[.ref t] c, slots := #[] } →
      LstAt s.heap t (us.take i).flatten → t ≠ S → (∀ b ∈ wr, t ≠ b) →
      (∀ s' t', Keeps h0 s'.heap → LstAt s'.heap t' us.flatten → s'.gens = s.gens → s'.drawn = s.drawn → s'.os = s.os → s.toks ≤ s'.toks → (∀ b o, b ≠ S → b ∉ wr → s.heap.get? b = some o → s'.heap.get? b = some o) → (t' = t ∨ S < t') → R (.ok (.ret (.ref t'))) s') →
      codeAny (model P w) A (.builtin "sum.loop" ⟨[.ref I, .ref S, rawInt 2, rawInt 0], []⟩) R s := by
  have nw : S ∉ wr := fun h => hS (W.sub _ h)
  have kp : ∀ {s s' : Shared}, Moved wr (fun a b => b = a) s s' → Keeps h0 s.heap → Keeps h0 s'.heap := fun mv k b o e => mv.heap b o (fun hb => by rw [wr0 b hb] at e; cases e) (k b o e)
  intro m
  induction m with
  | zero =>
    intro i s t c em hi st k0 hS0 ⟨k, ht⟩ tS tw hR
    have e : i = n := by omega
    subst e
    refine codeAny_builtin F.entry_sum_loop ?_
    rw [Around.under_plainId F.plain_sum_loop _]
    show wpAny _ A.in1 (seqItems? (.ref S) >>= _) _ _ s
    refine wpAny_bind (wpAny_seqItems hS0 rfl ?_)
    show wpAny _ A.in1 (tryCatch (pyNext (.ref I)) _ >>= _) _ _ s
    refine wpAny_bind (wpAny_tryCatch (W.done s _ _ st fun s' mv => ?_))
    have ht' := mv.heap t _ (fun hb => tw t hb rfl) ht
    rw [en, List.take_length] at ht'
    exact wpAny_pure (hR s' t (kp mv k0) ⟨k, ht'⟩ mv.gens mv.drawn mv.os mv.toks (fun b o _ hb e => mv.heap b o hb e) (.inl rfl))
  | succ m ih =>
    intro i s t c em hi st k0 hS0 ⟨k, ht⟩ tS tw hR
    have lt : i < n := by omega
    refine codeAny_builtin F.entry_sum_loop ?_
    rw [Around.under_plainId F.plain_sum_loop _]
    show wpAny _ A.in1 (seqItems? (.ref S) >>= _) _ _ s
    refine wpAny_bind (wpAny_seqItems hS0 rfl ?_)
    show wpAny _ A.in1 (tryCatch (pyNext (.ref I)) _ >>= _) _ _ s
    refine wpAny_bind (wpAny_tryCatch (W.item i s _ _ lt st fun v s' hP st' mv => ?_))
    obtain ⟨a, xs, ex, rfl, ka, ha⟩ := isl i v hP
    have k1 := kp mv k0
    have ht' := mv.heap t _ (fun hb => tw t hb rfl) ht
    have hS1 := mv.heap S _ nw hS0
    show wpAny _ A.in1 ((holding [Value.ref a] (binaryOp .Add (.ref t) (.ref a))).attempt >>= _) _ _ _
    have sz : (us.take i).flatten.length + xs.length ≤ sizeLine := by
      have z := flat_len us (i + 1)
      rw [flat_take ex, List.length_append] at z
      omega
    refine wpAny_bind (wpAny_attempt (wpAny_holding (PySem.P.add_list ht' (k1 a _ ha) ?_ (by rw [List.size_toArray, List.size_toArray]; omega))))
    have big : s'.heap.objs.size ≠ S := by
      exact Nat.ne_of_gt (Heap.lt_size hS1)
    have hS2 : (s'.heap.push { cls := .type "list", data := .seq ((us.take i).flatten.toArray ++ xs.toArray) }).get? S = some { cls := .type "list", dict := none, data := .seq #[.ref t] c, slots := #[] } := Heap.get?_push_of_some _ hS1
    show wpAny _ A.in1 (updateSeq S (fun _ => #[Value.ref s'.heap.objs.size]) >>= _) _ _ _
    refine wpAny_bind (wpAny_updateSeq hS2 rfl ?_)
    have gS : ∀ b u, b ≠ S → (s'.heap.push { cls := .type "list", data := .seq ((us.take i).flatten.toArray ++ xs.toArray) }).get? b = some u → ((s'.heap.push { cls := .type "list", data := .seq ((us.take i).flatten.toArray ++ xs.toArray) }).update S (Obj.mapSeq fun _ => #[Value.ref s'.heap.objs.size])).get? b = some u := fun b u ne e => (Heap.get?_update_other _ _ (Ne.symm ne)).trans e
    have hS3 := Heap.get?_update_self (Obj.mapSeq fun _ => #[Value.ref s'.heap.objs.size]) hS2 rfl
    refine wpAny_bind (wpAny_letGo ?_)
    refine wpAny_bind (wpAny_updateSeq hS3 rfl (wpAny_pure ⟨plainId_quiet F.plain_sum_loop _, ?_⟩))
    have fin : ∀ b u, b ≠ S → s'.heap.get? b = some u → ((((s'.heap.push { cls := .type "list", data := .seq ((us.take i).flatten.toArray ++ xs.toArray) }).update S (Obj.mapSeq fun _ => #[Value.ref s'.heap.objs.size])).update S (Obj.mapSeq fun _ => #[Value.ref s'.heap.objs.size])).get? b = some u) := fun b u ne e =>
      (Heap.get?_update_other _ _ (Ne.symm ne)).trans (gS b u ne (Heap.get?_push_of_some _ e))
    refine ih (i + 1) _ s'.heap.objs.size _ (by omega) lt (W.frame _ s' _ _ st' (Nat.le_refl _) fun b hb o e => fin b o (fun z => hS (by rw [← z]; exact hb)) e) (fun b o e => fin b o (fun z => by rw [z, S0] at e; cases e) (k1 b o e))
      (Heap.get?_update_self _ hS3 rfl) ⟨0, ?_⟩ big (fun b hb => Nat.ne_of_gt (Nat.lt_trans (fpS b (W.sub b hb)) (Heap.lt_size hS1))) fun s2 t2 q1 q2 q3 q4 q5 q6 q7 q8 => ?_
    · rw [flat_take ex]
      refine (Heap.get?_update_other _ _ (Ne.symm big)).trans (gS _ _ big ?_)
      rw [Heap.get?_push_size _ rfl]
      simp
    · refine hR s2 t2 q1 q2 (q3.trans mv.gens) (q4.trans mv.drawn) (q5.trans mv.os) (Nat.le_trans mv.toks q6) (fun b o n1 n2 e => q7 b o n1 n2 (fin b o n1 (mv.heap b o n2 e))) (.inr ?_)
      rcases q8 with e | e
      · rw [e]; exact Heap.lt_size hS1
      · exact e
theorem call_sum2 {l z : Addr} {its : Array Value} (us : List (List Value)) {Q : Value → Shared → Prop} (hh : A.handled = none) (hl : s.heap.IsList l its) (hz : LstAt s.heap z []) (sz : its.size = us.length)
    (isl : ∀ (i : Nat) v, its[i]? = some v → ∃ a xs, us[i]? = some xs ∧ v = .ref a ∧ LstAt s.heap a xs) (lim : us.flatten.length ≤ sizeLine)
    (q : ∀ (s' : Shared) t, Keeps s.heap s'.heap → LstAt s'.heap t us.flatten → s'.gens = s.gens → s'.drawn = s.drawn → s'.os = s.os → (t = z ∨ s.heap.objs.size ≤ t) → Q (.ref t) s') :
    wpAny (model P w) A (call (.builtin "sum") [.ref l, .ref z]) Q E s := by
  obtain ⟨kz, gz⟩ := hz
  refine call_function_tree F.kind_sum F.plain_sum F.entry_sum (args_sum2 _ _) ?_
  unfold Builtin.«sum»
  simp only [List.length_cons, List.length_nil]
  rw [if_neg (by decide)]
  refine wpAny_bind (wpAny_of_eq (show Builtin.Builtins.bindParams "sum" ["start"] 0 ⟨[.ref z], []⟩ = pure [some (.ref z)] from rfl) ?_)
  refine wpAny_bind (wpAny_pyIter_list hl ?_)
  refine wpAny_bind (wpAny_pure ?_)
  have kept : Keeps s.heap (s.heap.push { cls := .type "list_iterator", data := .fields #[.ref l, .int 0 0] }) := fun b o e => Heap.get?_push_of_some _ e
  have tz : Shared.TypeIs { s with heap := s.heap.push { cls := .type "list_iterator", data := .fields #[.ref l, .int 0 0] } } (.ref z) "list" := ⟨_, kept z _ gz, rfl⟩
  simp only [List.forIn_cons, List.forIn_nil]
  refine wpAny_bind (wpAny_bind (wpAny_bind (wpAny_isInstance (T := "list") (b := false) tz F.sub_list_str ?_)))
  simp only [Bool.false_eq_true, if_false]
  refine wpAny_pure (wpAny_bind (wpAny_bind (wpAny_isInstance (T := "list") (b := false) tz F.sub_list_bytes ?_)))
  simp only [Bool.false_eq_true, if_false]
  refine wpAny_pure (wpAny_bind (wpAny_bind (wpAny_isInstance (T := "list") (b := false) tz F.sub_list_bytearray ?_)))
  simp only [Bool.false_eq_true, if_false]
  refine wpAny_pure (wpAny_pure ?_)
  refine wpAny_bind (wpAny_newObj_type ?_)
  obtain ⟨ol, gl, cl, nl, dl⟩ := id hl
  have lL : l < s.heap.objs.size := Heap.lt_size gl
  have s1 : (s.heap.push { cls := .type "list_iterator", data := .fields #[.ref l, .int 0 0] }).objs.size = s.heap.objs.size + 1 := Heap.size_push ..
  have h3 : A.in1.handled = none := by simp [hh]
  have neI : l ≠ s.heap.objs.size := Nat.ne_of_lt lL
  have offS : (s.heap.push { cls := .type "list_iterator", data := .fields #[.ref l, .int 0 0] }).objs.size ∉ [s.heap.objs.size, l] := by
    rw [s1]
    simp only [List.mem_cons, List.not_mem_nil, or_false, not_or]
    exact ⟨Nat.ne_of_gt (Nat.lt_succ_self _), Nat.ne_of_gt (Nat.lt_succ_of_lt lL)⟩
  have kept2 : Keeps s.heap ((s.heap.push { cls := .type "list_iterator", data := .fields #[.ref l, .int 0 0] }).push { cls := .type "list", data := .seq #[.ref z] }) := fun b o e => Heap.get?_push_of_some _ (kept b o e)
  refine wpAny_pure ⟨plainId_quiet F.plain_sum_loop _, sum_on (A := A) ((Walks.list h3 s.heap.objs.size l neI its).toS) _ offS us sz s.heap isl (none_at (by rw [s1]; exact Nat.le_succ _)) (fun b hb => by rw [List.mem_singleton.mp hb]; exact none_at (Nat.le_refl _)) (fun b hb => ?_) lim (its.size - 0) 0 { s with heap := (s.heap.push { cls := .type "list_iterator", data := .fields #[.ref l, .int 0 0] }).push { cls := .type "list", data := .seq #[.ref z] } } z 0 (by omega) (Nat.zero_le _)
    ⟨⟨_, Heap.get?_push_of_some _ (Heap.get?_push_size _ rfl), rfl, rfl⟩, ((hl.push _).push _)⟩ kept2 (Heap.get?_push_size _ rfl) ⟨kz, kept2 z _ gz⟩ ?_ ?_ fun s' t k1 ht e1 e2 e3 _ _ ft => q s' t k1 ht e1 e2 e3 (ft.imp id fun z => by
      have z : (s.heap.push { cls := .type "list_iterator", data := .fields #[.ref l, .int 0 0] }).objs.size < t := z
      rw [s1] at z
      exact Nat.le_of_lt (Nat.lt_of_succ_lt z))⟩
  · rw [s1]
    rcases List.mem_cons.mp hb with e | e
    · rw [e]; exact Nat.lt_succ_self _
    · rw [List.mem_singleton.mp e]; exact Nat.lt_succ_of_lt lL
  · have := Heap.lt_size gz
    rw [s1]
    exact Nat.ne_of_lt (Nat.lt_succ_of_lt this)
  · intro b hb e
    rw [List.mem_singleton.mp hb] at e
    rw [e] at gz
    exact absurd (Heap.lt_size gz) (Nat.lt_irrefl _)
end
end Lb.Sets
end
section
set_option Elab.async false
set_option linter.all false
set_option maxRecDepth 100000
namespace Lb
open PySem PySem.Spec PyProof.Rows L2 Lb.Sets
section
variable {X : Cx} {fa : Fa}
/-- lists of values, tracked -/
inductive TrL (H : Hp) : List V → List (List V) → Prop
  | nil : TrL H [] []
  | cons {a : Addr} {xs : List V} {vs : List V} {ls : List (List V)} : H a = some (.lst xs) → TrL H vs ls → TrL H (.ref a :: vs) (xs :: ls)
theorem TrL.len {H : Hp} : ∀ {vs : List V} {ls : List (List V)}, TrL H vs ls → vs.length = ls.length
  | _, _, .nil => rfl
  | _, _, .cons _ t => congrArg (· + 1) t.len
theorem TrL.vals {pins : List (Addr × Obj)} {σ : St} {H : Hp} {s : Shared} (I : Inv X pins σ H s) : ∀ {vs : List V} {ls : List (List V)} {us : List Value}, TrL H vs ls → Vals vs us → ∃ uss : List (List Value), Vals ls.flatten uss.flatten ∧ us.length = uss.length ∧ ∀ (i : Nat) v, us[i]? = some v → ∃ a xs, uss[i]? = some xs ∧ v = .ref a ∧ LstAt s.heap a xs
  | _, _, _, .nil, .nil => ⟨[], .nil, rfl, fun i v e => by simp at e⟩
  | _, _, _, .cons h t, .cons r rt => by
    obtain ⟨uss, a1, a2, a3⟩ := TrL.vals I t rt
    obtain ⟨z, its, n, rv, hl, e⟩ := I.lstM h
    refine ⟨its :: uss, by rw [List.flatten_cons, List.flatten_cons]; exact rv.append a1, congrArg (· + 1) a2, fun i v ei => ?_⟩
    cases i with
    | zero =>
      simp only [List.getElem?_cons_zero, Option.some.injEq] at ei
      subst ei
      exact ⟨_, its, rfl, r, n, e⟩
    | succ i =>
      obtain ⟨a, xs, b1, b2, b3⟩ := a3 i v (by simpa using ei)
      exact ⟨a, xs, by simpa using b1, b2, b3⟩
def rSumL : List V → Hp → VK → Prop := fun vs H Q => ∃ (l z : Addr) (ws : List V) (ls : List (List V)), vs = [.ref l, .ref z] ∧ H l = some (.lst ws) ∧ H z = some (.lst []) ∧ TrL H ws ls ∧ ls.flatten.length ≤ sizeLine ∧
  (ls.flatten = [] → Q (.ref z) H) ∧ ∀ p, H p = none → Q (.ref p) (upd H p (.lst ls.flatten))
theorem cr_sumL (hc : X.calm = true) : CallR X (.builtin "sum") rSumL := by
  intro pins s σ H vs us Q I r h
  obtain ⟨l, z, ws, ls, rfl, hl, hz, tr, lim, q0, q1⟩ := h
  obtain ⟨u1, u2, rfl, r1, r2⟩ := Vals.two r
  cases r1
  cases r2
  obtain ⟨_, its, n, rv, _, e⟩ := I.lstM hl
  obtain ⟨_, itz, nz, rz, _, ez⟩ := I.lstM hz
  cases rz
  obtain ⟨uss, a1, a2, a3⟩ := tr.vals I rv
  refine call_sum2 (P := X.prog) (w := X.w) uss (I.ok.hd hc) ⟨_, e, rfl, n, rfl⟩ ⟨nz, ez⟩ (by rw [List.size_toArray]; exact a2) (fun i v ei => a3 i v (by simpa using ei)) (by rw [← a1.length]; exact lim) fun s' t kp ⟨k, gt⟩ eg ed eo ft => ?_
  have es : s' = ⟨s'.heap, s'.gens, s'.drawn, s'.toks, s.os⟩ := by
    cases s'
    cases s
    cases eo
    rfl
  rcases ft with ft | ft
  · subst ft
    have g2 := kp t _ ez
    rw [gt] at g2
    have z1 : uss.flatten = [] := by
      have z2 := congrArg (fun o : Option Obj => o.map (·.data)) g2
      simp only [Option.map_some, Option.some.injEq, Data.seq.injEq] at z2
      simpa using z2.1
    rw [z1] at a1
    have z3 : ls.flatten = [] := by
      cases e9 : ls.flatten with
      | nil => rfl
      | cons y ys => rw [e9] at a1; cases a1
    have J : Inv X pins σ H ⟨s'.heap, s'.gens, s'.drawn, s'.toks, s.os⟩ := I.call (h' := s'.heap) (g' := s'.gens) (d' := s'.drawn) (t' := s'.toks) (ch := []) (Un.kept kp) (I.hok.kept kp) (by rw [eg]; exact I.bare) (fun _ z => nomatch z)
    rw [es]
    exact ⟨.ref t, H, J, rfl, q0 z3⟩
  · have hn : H t = none := I.hok.fresh ft
    have J : Inv X pins σ (upd H t (.lst ls.flatten)) ⟨s'.heap, s'.gens, s'.drawn, s'.toks, s.os⟩ := I.call (h' := s'.heap) (g' := s'.gens) (d' := s'.drawn) (t' := s'.toks) (ch := []) (Un.laid kp ft hn) (I.hok.laid kp ft ⟨lim, _, k, a1, gt⟩) (by rw [eg]; exact I.bare) (fun _ z => nomatch z)
    rw [es]
    exact ⟨.ref t, _, J, rfl, q1 t hn⟩
section
variable {XR : XRel} {c : Cl} {W : WX} {H0 : Hp} {T : Tb} {n : Nat} {N : List Str} {sc : Scope} {sto : Sto}
theorem lists_rep {K : PySem.W.Frag} {F H : Hp} {al : List Addr} (hs : ∀ p o, F p = some o → H p = some o) : ∀ {xs : List D} {vs : List V} {ys : List (List D)}, lists xs = some ys → RepL K fa F al vs xs → ∃ ls, TrL H vs ls ∧ RepL K fa F al ls.flatten ys.flatten
  | [], _, ys, e, .nil => by cases e; exact ⟨[], .nil, .nil⟩
  | d :: r, _, ys, e, .cons h t => by
    cases d with
    | lst xs =>
      obtain ⟨zs, e1, rfl⟩ := Option.map_eq_some_iff.mp (show (lists r).map (xs :: ·) = some ys from e)
      obtain ⟨ls, a1, a2⟩ := lists_rep hs e1 t
      cases h with
      | lst q1 q2 =>
        exact ⟨_ :: ls, .cons (hs _ _ q1) a1, by rw [List.flatten_cons, List.flatten_cons]; exact q2.append a2⟩
    | _ => cases e
theorem snd_sumL (ok : Cok T fa XR c n N sc sto X) {a : Ex} {x : Str} {e : Expr} {p1 p2 p3 : Pos} (h1 : x = ("sum" : Str)) (h2 : glob sc x = true) (hs : unstar e = true) (ha : PE X e (Lb.tB fa XR c W H0 X a)) :
    PE X (.Call (.Name x p1) [e, .List [] p2] [] p3) (tX fa XR c W H0 X (.sumL a)) := by
  subst h1
  refine (pe_callB (cr_sumL ok.calm) (glob_of ok.sc h2) (ok.g.free _ (by decide)) (by decide +kernel) (pa_cons ha (pa_cons (pe_lst pa_nil) pa_nil rfl) (star_ok hs)) (by decide) (by decide) (star_ok hs) rfl).imp fun τ H Q ⟨w, h, σ, S, SR, g⟩ => ⟨w, h, σ, S, SR, Good.bind (f := fun x h1 => R.of h1 (bSumL (rd h1 x))) g fun d h1 w1 H1 v _ e1 S1 r1 g1 => ?_⟩
  refine ⟨by show 0 ≤ sizeLine; omega, fun z hz => ?_⟩
  cases ez : bSumL (rd h1 d) with
  | none => rw [ez] at g1; exact (show False from g1).elim
  | some zz =>
    rw [ez] at g1
    have vp := r1.vp S1
    cases ed : rd h1 d with
    | lst xs =>
      rw [ed] at ez vp
      obtain ⟨ys, el, e2⟩ := Option.bind_eq_some_iff.mp (show ((lists xs).bind fun ys => if ys.flatten.length ≤ sz then some (D.lst ys.flatten) else none) = some zz from ez)
      obtain ⟨lim, rfl⟩ := ite_some e2
      obtain ⟨l, vs, rfl, hl, hr⟩ := vp.list S1.sub
      obtain ⟨ls, t1, t2⟩ := lists_rep S1.sub el hr
      have ne : ∀ b o, H1 b = some o → upd H1 z (.lst []) b = some o := fun b o e => by rw [upd_ne (ne_of_none e hz)]; exact e
      have tr : ∀ {vs : List V} {ls : List (List V)}, TrL H1 vs ls → TrL (upd H1 z (.lst [])) vs ls := fun h => by
        induction h with
        | nil => exact .nil
        | cons a _ ih => exact .cons (ne _ _ a) ih
      refine ⟨l, z, vs, ls, rfl, ne _ _ hl, upd_same, tr t1, by rw [t2.length]; exact szl lim, fun e0 => ?_, fun p hp => ?_⟩
      · obtain ⟨w3, e3, S3, n3⟩ := (Res.lst (K := X.K) (fa := fa) hz t2).toN S1 e1
        rw [e0] at e3 S3 n3
        exact g1 w3 _ _ e3 S3 n3
      · have nz : p ≠ z := fun y => by subst y; rw [upd_same] at hp; cases hp
        have S2 := S1.lay (o := .lst []) hz
        have e2 := e1.trans (Ext.lay (w := w1) (o := .lst []) hz)
        obtain ⟨w3, e3, S3, n3⟩ := (Res.lst (K := X.K) (fa := fa) hp t2).toN S2 e2
        exact g1 w3 _ _ ((Ext.lay hz).trans e3) S3 n3
    | _ => rw [ed] at ez; cases ez
end
end
end Lb
end
section
set_option Elab.async false
set_option linter.all false
set_option maxRecDepth 100000
namespace Lb
open PySem PySem.Spec PyProof.Rows L2
section
variable {fa : Fa} {XR : XRel} {c : Cl} {T : Tb} {n : Nat} {N : List Str} {H0 : Hp}
theorem ckKs_of : ∀ {ks : List Tx} {us : List (Option Expr)}, ckKs ks us = true → us.all (·.isSome) = true ∧ us.length = ks.length
  | [], [], _ => ⟨rfl, rfl⟩
  | k :: ks, some (.Constant (.str y) _ _) :: us, h => by
    have h : (decide (y = toS k) && ckKs ks us) = true := h
    rw [Bool.and_eq_true] at h
    obtain ⟨h1, h2⟩ := ckKs_of h.2
    exact ⟨h1, congrArg (· + 1) h2⟩
theorem ckKs_inv {k : Tx} {ks : List Tx} : ∀ {us : List (Option Expr)}, ckKs (k :: ks) us = true → ∃ j pp us', us = some (.Constant (.str (toS k)) j pp) :: us' ∧ ckKs ks us' = true
  | some (.Constant (.str y) j pp) :: us, h => by
    have h : (decide (y = toS k) && ckKs ks us) = true := h
    rw [Bool.and_eq_true, decide_eq_true_eq] at h
    obtain ⟨rfl, h2⟩ := h
    exact ⟨j, pp, us, rfl, h2⟩
theorem ckEs_len {T : Tb} {sc : Scope} {sto : Sto} {fz : Bool} : ∀ {es : Exs} {l : List Expr}, ckEs T N sc sto fz es l = true → l.length = lenEs es ∧ l.all unstar = true
  | .nil, [], _ => ⟨rfl, rfl⟩
  | .nil, _ :: _, h => by cases h
  | .cons a r, [], h => by cases h
  | .cons a r, e :: es, h => by
    have h : ((!fz || frz a) && unstar e && ckE T N sc sto a e && ckEs T N sc sto fz r es) = true := h
    simp only [Bool.and_eq_true] at h
    obtain ⟨h1, h2⟩ := ckEs_len h.2
    exact ⟨congrArg (· + 1) h1, by rw [List.all_cons, h.1.1.2, h2]; rfl⟩
theorem tail_pw {op : BoolOp} {y : Expr} {p : Pos} {X : Cx} {t : TT} (h : PT X y t) : PW X (.BoolOp op [y] p) t := by
  cases op with
  | And => exact pw_and1 h
  | Or => exact pw_or1 h
theorem tail_pe {op : BoolOp} {y : Expr} {p : Pos} {X : Cx} {t : TE} (h : PE X y t) : PE X (.BoolOp op [y] p) t := ⟨fun pins s σ H Q I q => by
    exact BoolOp_one (h.run pins s σ H Q I q)⟩
theorem both {X : Cx} {W : WX} {m : Ex} {e : Expr} (hp : plainT e = true) (h : PE X e (tX fa XR c W H0 X m)) : PE X e (tX fa XR c W H0 X m) ∧ PT X e (tT fa XR c W H0 X m) := ⟨h, snd_truth (toB h) hp⟩
theorem ckVar_plain {sc : Scope} {i : Nat} {e : Expr} (h : ckVar N sc i e = true) : plainT e = true := by
  unfold ckVar at h
  split at h
  · rfl
  · cases h
theorem new_plain {sc : Scope} {sto : Sto} {a : Ex} {e : Expr} (hf : form a = .new) (h : ckE T N sc sto a e = true) : plainT e = true := by
  cases a with
  | bin o a b =>
    have h : (match (generalizing := false) e with
      | .BinOp l op r _ => decide (op = opc o) && ckE T N sc sto a l && ckE T N sc sto b r
      | _ => false) = true := h
    split at h
    · rfl
    · cases h
  | slice a lo hi =>
    have h : (match (generalizing := false) e with
      | .Subscript v (.Slice l u none _) _ => ckE T N sc sto a v && ckP T N sc sto lo l && ckP T N sc sto hi u
      | _ => false) = true := h
    split at h
    · rfl
    · cases h
  | rev a =>
    have h : (match (generalizing := false) e with
      | .Subscript v (.Slice none none (some (.UnaryOp .USub (.Constant (.int i) _ _) _)) _) _ => decide (i = 1) && ckE T N sc sto a v
      | _ => false) = true := h
    split at h
    · rfl
    · cases h
  | lst es =>
    have h : (match (generalizing := false) e with
      | .List l _ => ckEs T N sc sto true es l
      | _ => false) = true := h
    split at h
    · rfl
    · cases h
  | comp tg it el =>
    have h : (match (generalizing := false) e with
      | .ListComp e [⟨t, i, [], 0⟩] sp _ => frz el && ckIc T N sc sto it i && blkC N sc sp (ownOf N tg.slots) && ckTg N (stoS sp) tg t && ckE T N (relS sp sc) (stoS sp) el e && !isSet i
      | _ => false) = true := h
    split at h
    · rfl
    · cases h
  | compIf tg it cn el =>
    have h : (match (generalizing := false) e with
      | .ListComp e [⟨t, i, [c], 0⟩] sp _ => frz el && frz cn && ckIc T N sc sto it i && blkC N sc sp (ownOf N tg.slots) && ckTg N (stoS sp) tg t && ckE T N (relS sp sc) (stoS sp) cn c && ckE T N (relS sp sc) (stoS sp) el e && !isSet i
      | _ => false) = true := h
    split at h
    · rfl
    · cases h
  | sset a =>
    have h : (match (generalizing := false) e with
      | .Call (.Name x _) [.Call (.Name y _) [e] [] _] [] _ => decide (x = ("sorted" : Str)) && glob sc x && decide (y = ("set" : Str)) && glob sc y && unstar e && ckE T N sc sto a e
      | _ => false) = true := h
    split at h
    · rfl
    · cases h
  | sumL a =>
    have h : (match (generalizing := false) e with
      | .Call (.Name x _) [e, .List [] _] [] _ => decide (x = ("sum" : Str)) && glob sc x && unstar e && ckE T N sc sto a e
      | _ => false) = true := h
    split at h
    · rfl
    · cases h
  | blt b es =>
    have h : (match (generalizing := false) e with
      | .Call (.Name x _) (y :: r) [] _ => bltHas b && decide (x = bltName b) && glob sc x && ckEs T N sc sto false es (y :: r)
      | _ => false) = true := h
    split at h
    · rfl
    · cases h
  | mth m o es =>
    have h : (match (generalizing := false) e with
      | .Call (.Attribute e nm ap) [x] [] cp => mthHas m && decide (nm = mthName m) && (ap.endLine == cp.line) && noCall0 e && decide (lenEs es = 1) && ckE T N sc sto o e && ckEs T N sc sto false es [x]
      | _ => false) = true := h
    split at h
    · rfl
    · cases h
  | _ => cases hf
mutual
theorem sndE : ∀ (m : Ex) {sc : Scope} {sto : Sto} {X : Cx} {W : WX} {e : Expr}, Cok T fa XR c n N sc sto X → Takes X W → ckE T N sc sto m e = true → PE X e (tX fa XR c W H0 X m) ∧ PT X e (tT fa XR c W H0 X m)
  | .var i, sc, sto, X, W, e, ok, tk, h => both (ckVar_plain h) (snd_var ok h)
  | .peek i, sc, sto, X, W, e, ok, tk, h => both (ckVar_plain h) (snd_peek ok h)
  | .lit d, sc, sto, X, W, e, ok, tk, h => by
    have h : (match (generalizing := false) e with
      | .Constant c _ _ => ckC d c
      | _ => false) = true := h
    split at h
    · exact both rfl (snd_lit h)
    · cases h
  | .kon x d, sc, sto, X, W, e, ok, tk, h => by
    have h : (match (generalizing := false) e with
      | .Name y _ => decide (y = toS x) && glob sc y && okName y && T.kons.any fun p => decide (p.1 = x) && beqD p.2 d
      | _ => false) = true := h
    split at h
    · simp only [Bool.and_eq_true, decide_eq_true_eq] at h
      obtain ⟨⟨⟨h1, h2⟩, h3⟩, h4⟩ := h
      exact both rfl (snd_kon ok h1 h2 h3 h4)
    · cases h
  | .bin o a b, sc, sto, X, W, e, ok, tk, h => by
    have h : (match (generalizing := false) e with
      | .BinOp l op r _ => decide (op = opc o) && ckE T N sc sto a l && ckE T N sc sto b r
      | _ => false) = true := h
    split at h
    · simp only [Bool.and_eq_true, decide_eq_true_eq] at h
      obtain ⟨⟨rfl, h2⟩, h3⟩ := h
      exact both rfl (snd_bin (toB (sndE a ok tk h2).1) (toB (sndE b ok tk h3).1))
    · cases h
  | .neg a, sc, sto, X, W, e, ok, tk, h => by
    have h : (match (generalizing := false) e with
      | .UnaryOp .USub e _ => frz a && ckE T N sc sto a e
      | _ => false) = true := h
    split at h
    · rw [Bool.and_eq_true] at h
      exact both rfl (snd_neg (toE h.1 (sndE a ok tk h.2).1))
    · cases h
  | .not a, sc, sto, X, W, e, ok, tk, h => by
    have h : (match (generalizing := false) e with
      | .UnaryOp .Not e _ => frz a && ckE T N sc sto a e
      | _ => false) = true := h
    split at h
    · rw [Bool.and_eq_true] at h
      exact ⟨snd_not (toE h.1 (sndE a ok tk h.2).1), sndT_not (sndE a ok tk h.2).2⟩
    · cases h
  | .and a b, sc, sto, X, W, e, ok, tk, h => by
    have h : (match (generalizing := false) e with
      | .BoolOp .And (x :: y :: r) p => frz a && frz b && ckE T N sc sto a x && (match (generalizing := false) r with
        | [] => ckE T N sc sto b y
        | z :: r => ckE T N sc sto b (.BoolOp .And (y :: z :: r) p))
      | _ => false) = true := h
    split at h
    · rename_i _ x y r p _
      simp only [Bool.and_eq_true] at h
      obtain ⟨⟨⟨h1, h2⟩, h3⟩, h4⟩ := h
      have A := sndE a ok tk h3
      cases r with
      | nil => exact ⟨snd_and (toE h1 A.1) (tail_pe (toE h2 (sndE b ok tk h4).1)), (pw_and A.2 (tail_pw (sndE b ok tk h4).2)).pt.imp fun _ _ _ q => sndT_and0 q⟩
      | cons z r => exact ⟨snd_and (toE h1 A.1) (toE h2 (sndE b ok tk h4).1), (pw_and A.2 (pw_of (sndE b ok tk h4).2)).pt.imp fun _ _ _ q => sndT_and0 q⟩
    · cases h
  | .or a b, sc, sto, X, W, e, ok, tk, h => by
    have h : (match (generalizing := false) e with
      | .BoolOp .Or (x :: y :: r) p => frz a && frz b && ckE T N sc sto a x && (match (generalizing := false) r with
        | [] => ckE T N sc sto b y
        | z :: r => ckE T N sc sto b (.BoolOp .Or (y :: z :: r) p))
      | _ => false) = true := h
    split at h
    · rename_i _ x y r p _
      simp only [Bool.and_eq_true] at h
      obtain ⟨⟨⟨h1, h2⟩, h3⟩, h4⟩ := h
      have A := sndE a ok tk h3
      cases r with
      | nil => exact ⟨snd_or (toE h1 A.1) (tail_pe (toE h2 (sndE b ok tk h4).1)), (pw_or A.2 (tail_pw (sndE b ok tk h4).2)).pt.imp fun _ _ _ q => sndT_or0 q⟩
      | cons z r => exact ⟨snd_or (toE h1 A.1) (toE h2 (sndE b ok tk h4).1), (pw_or A.2 (pw_of (sndE b ok tk h4).2)).pt.imp fun _ _ _ q => sndT_or0 q⟩
    · cases h
  | .cmp o a b, sc, sto, X, W, e, ok, tk, h => by
    have h : (match (generalizing := false) e with
      | .Compare l [op] [r] _ => decide (op = cmc o) && ckE T N sc sto a l && ckE T N sc sto b r && !isSet r
      | _ => false) = true := h
    split at h
    · simp only [Bool.and_eq_true, decide_eq_true_eq, Bool.not_eq_true'] at h
      obtain ⟨⟨⟨rfl, h2⟩, h3⟩, h4⟩ := h
      exact ⟨snd_cmp ok h4 (toB (sndE a ok tk h2).1) (toB (sndE b ok tk h3).1), sndT_val (fun _ _ _ q => rd_cmp q) rfl (fun _ _ _ _ e => bl_cmp e) (snd_cmpT ok h4 (toB (sndE a ok tk h2).1) (toB (sndE b ok tk h3).1))⟩
    · cases h
  | .chain o o' a b m, sc, sto, X, W, e, ok, tk, h => by
    have h : (match (generalizing := false) e with
      | .Compare l [o1, o2] [x, r] _ => decide (o1 = cmc o) && decide (o2 = cmc o') && frz a && frz b && frz m && ckE T N sc sto a l && ckE T N sc sto b x && ckE T N sc sto m r && !isSet r && !isSet x
      | _ => false) = true := h
    split at h
    · simp only [Bool.and_eq_true, decide_eq_true_eq, Bool.not_eq_true'] at h
      obtain ⟨⟨⟨⟨⟨⟨⟨⟨⟨rfl, rfl⟩, h1⟩, h2⟩, h3⟩, h4⟩, h5⟩, h6⟩, h7⟩, h8⟩ := h
      exact ⟨snd_chain ok h7 h8 (toE h1 (sndE a ok tk h4).1) (toE h2 (sndE b ok tk h5).1) (toE h3 (sndE m ok tk h6).1), sndT_val (fun _ _ _ q => rd_chain q) rfl (fun _ _ _ _ e => bl_chain e) (snd_chainT ok h7 h8 (toE h1 (sndE a ok tk h4).1) (toE h2 (sndE b ok tk h5).1) (toE h3 (sndE m ok tk h6).1))⟩
    · cases h
  | .isk nn a k, sc, sto, X, W, e, ok, tk, h => by
    have h : (match (generalizing := false) e with
      | .Compare l [op] [.Constant c _ _] _ => decide (op = (if nn then .IsNot else .Is)) && ckK k c && ckE T N sc sto a l
      | _ => false) = true := h
    split at h
    · simp only [Bool.and_eq_true, decide_eq_true_eq] at h
      obtain ⟨⟨rfl, h2⟩, h3⟩ := h
      exact ⟨snd_isk h2 (toB (sndE a ok tk h3).1), sndT_val (fun _ _ _ q => rd_isk q) rfl (fun _ _ _ _ e => bl_isk e) (snd_iskT h2 (toB (sndE a ok tk h3).1))⟩
    · cases h
  | .ix a i, sc, sto, X, W, e, ok, tk, h => by
    have h : (match (generalizing := false) e with
      | .Subscript v s _ => frz i && ckE T N sc sto a v && ckE T N sc sto i s && !isSlice s
      | _ => false) = true := h
    split at h
    · simp only [Bool.and_eq_true, Bool.not_eq_true'] at h
      obtain ⟨⟨⟨h1, h2⟩, h3⟩, h4⟩ := h
      exact both rfl (snd_ix ok h4 (toB (sndE a ok tk h2).1) (toE h1 (sndE i ok tk h3).1))
    · cases h
  | .slice a lo hi, sc, sto, X, W, e, ok, tk, h => by
    have h : (match (generalizing := false) e with
      | .Subscript v (.Slice l u none _) _ => ckE T N sc sto a v && ckP T N sc sto lo l && ckP T N sc sto hi u
      | _ => false) = true := h
    split at h
    · simp only [Bool.and_eq_true] at h
      obtain ⟨⟨h1, h2⟩, h3⟩ := h
      exact both rfl (snd_slice (toB (sndE a ok tk h1).1) (sndP lo ok tk h2) (sndP hi ok tk h3))
    · cases h
  | .rev a, sc, sto, X, W, e, ok, tk, h => by
    have h : (match (generalizing := false) e with
      | .Subscript v (.Slice none none (some (.UnaryOp .USub (.Constant (.int i) _ _) _)) _) _ => decide (i = 1) && ckE T N sc sto a v
      | _ => false) = true := h
    split at h
    · simp only [Bool.and_eq_true, decide_eq_true_eq] at h
      obtain ⟨rfl, h2⟩ := h
      exact both rfl (snd_rev (toB (sndE a ok tk h2).1))
    · cases h
  | .dic ks es, sc, sto, X, W, e, ok, tk, h => by
    have h : (match (generalizing := false) e with
      | .Dict us vs _ => decide (ks.length ≤ 15) && decide (ks.Nodup) && ckKs ks us && decide (lenEs es = ks.length) && ckEs T N sc sto true es vs
      | _ => false) = true := h
    split at h
    · simp only [Bool.and_eq_true, decide_eq_true_eq] at h
      obtain ⟨⟨⟨⟨h1, h2⟩, h3⟩, h4⟩, h5⟩ := h
      obtain ⟨k1, k2⟩ := ckKs_of h3
      obtain ⟨k3, _⟩ := ckEs_len h5
      exact both rfl (snd_dic h1 h2 h4 (sndKs es ok tk h3 h4 h5) k1 (by rw [k2, k3, h4]) k2)
    · cases h
  | .tup es, sc, sto, X, W, e, ok, tk, h => by
    have h : (match (generalizing := false) e with
      | .Tuple l _ _ => ckEs T N sc sto true es l
      | _ => false) = true := h
    split at h
    · exact both rfl (snd_tup (sndEs es ok tk h))
    · cases h
  | .lst es, sc, sto, X, W, e, ok, tk, h => by
    have h : (match (generalizing := false) e with
      | .List l _ => ckEs T N sc sto true es l
      | _ => false) = true := h
    split at h
    · exact both rfl (snd_lst (sndEs es ok tk h))
    · cases h
  | .call f es, sc, sto, X, W, e, ok, tk, h => by
    have h : (match (generalizing := false) e with
      | .Call (.Name x _) (y :: r) [] _ => decide (T.fns.lookup f = some x) && glob sc x && okName x && ckEs T N sc sto true es (y :: r)
      | _ => false) = true := h
    split at h
    · simp only [Bool.and_eq_true, decide_eq_true_eq] at h
      obtain ⟨⟨⟨h1, h2⟩, h3⟩, h4⟩ := h
      exact both rfl (snd_call ok tk h1 h2 h3 (ckEs_len h4).2 (sndEs es ok tk h4))
    · cases h
  | .blt b es, sc, sto, X, W, e, ok, tk, h => by
    have h : (match (generalizing := false) e with
      | .Call (.Name x _) (y :: r) [] _ => bltHas b && decide (x = bltName b) && glob sc x && ckEs T N sc sto false es (y :: r)
      | _ => false) = true := h
    split at h
    · simp only [Bool.and_eq_true, decide_eq_true_eq] at h
      obtain ⟨⟨⟨h1, h2⟩, h3⟩, h4⟩ := h
      exact both rfl (snd_blt ok h1 h2 h3 (ckEs_len h4).2 (sndBs es ok tk h4))
    · cases h
  | .isi a t, sc, sto, X, W, e, ok, tk, h => by
    have h : (match (generalizing := false) e with
      | .Call (.Name x _) [e, .Name y _] [] _ => decide (x = ("isinstance" : Str)) && glob sc x && decide (y = tyName t) && glob sc y && unstar e && ckE T N sc sto a e
      | _ => false) = true := h
    split at h
    · simp only [Bool.and_eq_true, decide_eq_true_eq] at h
      obtain ⟨⟨⟨⟨⟨h1, h2⟩, h3⟩, h4⟩, h5⟩, h6⟩ := h
      exact both rfl (snd_isi ok h1 h2 h3 h4 h5 (toB (sndE a ok tk h6).1))
    · cases h
  | .mth m o .nil, sc, sto, X, W, e, ok, tk, h => by
    have h : (match (generalizing := false) e with
      | .Call (.Attribute e nm ap) [x] [] cp => mthHas m && decide (nm = mthName m) && (ap.endLine == cp.line) && noCall0 e && decide (lenEs .nil = 1) && ckE T N sc sto o e && ckEs T N sc sto false .nil [x]
      | _ => false) = true := h
    split at h
    · simp [lenEs] at h
    · cases h
  | .mth m o (.cons a (.cons b r)), sc, sto, X, W, e, ok, tk, h => by
    have h : (match (generalizing := false) e with
      | .Call (.Attribute e nm ap) [x] [] cp => mthHas m && decide (nm = mthName m) && (ap.endLine == cp.line) && noCall0 e && decide (lenEs (.cons a (.cons b r)) = 1) && ckE T N sc sto o e && ckEs T N sc sto false (.cons a (.cons b r)) [x]
      | _ => false) = true := h
    split at h
    · simp [lenEs] at h
    · cases h
  | .mth m o (.cons a .nil), sc, sto, X, W, e, ok, tk, h => by
    have h : (match (generalizing := false) e with
      | .Call (.Attribute e nm ap) [x] [] cp => mthHas m && decide (nm = mthName m) && (ap.endLine == cp.line) && noCall0 e && decide (lenEs (.cons a .nil) = 1) && ckE T N sc sto o e && ((!false || frz a) && unstar x && ckE T N sc sto a x && ckEs T N sc sto false .nil [])
      | _ => false) = true := h
    split at h
    · simp only [Bool.and_eq_true, decide_eq_true_eq] at h
      obtain ⟨⟨⟨⟨⟨⟨h1, h2⟩, h3⟩, h4⟩, h5⟩, h6⟩, ⟨⟨⟨_, h7⟩, h8⟩, _⟩⟩ := h
      exact both rfl (snd_mth h1 h2 h3 h4 h7 (toB (sndE o ok tk h6).1) (toB (sndE a ok tk h8).1))
    · cases h
  | .comp tg it el, sc, sto, X, W, e, ok, tk, h => by
    have h : (match (generalizing := false) e with
      | .ListComp e [⟨t, i, [], 0⟩] sp _ => frz el && ckIc T N sc sto it i && blkC N sc sp (ownOf N tg.slots) && ckTg N (stoS sp) tg t && ckE T N (relS sp sc) (stoS sp) el e && !isSet i
      | _ => false) = true := h
    split at h
    · simp only [Bool.and_eq_true, Bool.not_eq_true'] at h
      obtain ⟨⟨⟨⟨⟨h1, h2⟩, h3⟩, h4⟩, h5⟩, h6⟩ := h
      exact both rfl (snd_comp ok (sndIc it ok tk h2) h3 h4 h6 fun X' ok' tk' => toE h1 (sndE el ok' tk' h5).1)
    · cases h
  | .compIf tg it cn el, sc, sto, X, W, e, ok, tk, h => by
    have h : (match (generalizing := false) e with
      | .ListComp e [⟨t, i, [c], 0⟩] sp _ => frz el && frz cn && ckIc T N sc sto it i && blkC N sc sp (ownOf N tg.slots) && ckTg N (stoS sp) tg t && ckE T N (relS sp sc) (stoS sp) cn c && ckE T N (relS sp sc) (stoS sp) el e && !isSet i
      | _ => false) = true := h
    split at h
    · simp only [Bool.and_eq_true, Bool.not_eq_true'] at h
      obtain ⟨⟨⟨⟨⟨⟨⟨h1, h0⟩, h2⟩, h3⟩, h4⟩, h5⟩, h6⟩, h7⟩ := h
      exact both rfl (snd_compIf ok (sndIc it ok tk h2) h3 h4 h7 (fun X' ok' tk' => (sndE cn ok' tk' h5).2) fun X' ok' tk' => toE h1 (sndE el ok' tk' h6).1)
    · cases h
  | .mk a, sc, sto, X, W, e, ok, tk, h => by
    have h : (decide (form a = .new) && ckE T N sc sto a e) = true := h
    simp only [Bool.and_eq_true, decide_eq_true_eq] at h
    exact both (new_plain h.1 h.2) (snd_mk h.1 (sndE a ok tk h.2).1)
  | .sset a, sc, sto, X, W, e, ok, tk, h => by
    have h : (match (generalizing := false) e with
      | .Call (.Name x _) [.Call (.Name y _) [e] [] _] [] _ => decide (x = ("sorted" : Str)) && glob sc x && decide (y = ("set" : Str)) && glob sc y && unstar e && ckE T N sc sto a e
      | _ => false) = true := h
    split at h
    · simp only [Bool.and_eq_true, decide_eq_true_eq] at h
      obtain ⟨⟨⟨⟨⟨h1, h2⟩, h3⟩, h4⟩, h5⟩, h6⟩ := h
      exact both rfl (snd_sset ok h1 h2 h3 h4 h5 (toB (sndE a ok tk h6).1))
    · cases h
  | .lset a, sc, sto, X, W, e, ok, tk, h => by
    have h : (match (generalizing := false) e with
      | .Call (.Name x _) [.Call (.Name y _) [e] [] _] [] _ => decide (x = ("len" : Str)) && glob sc x && decide (y = ("set" : Str)) && glob sc y && unstar e && ckE T N sc sto a e
      | _ => false) = true := h
    split at h
    · simp only [Bool.and_eq_true, decide_eq_true_eq] at h
      obtain ⟨⟨⟨⟨⟨h1, h2⟩, h3⟩, h4⟩, h5⟩, h6⟩ := h
      exact both rfl (snd_lset ok h1 h2 h3 h4 h5 (toB (sndE a ok tk h6).1))
    · cases h
  | .sumL a, sc, sto, X, W, e, ok, tk, h => by
    have h : (match (generalizing := false) e with
      | .Call (.Name x _) [e, .List [] _] [] _ => decide (x = ("sum" : Str)) && glob sc x && unstar e && ckE T N sc sto a e
      | _ => false) = true := h
    split at h
    · simp only [Bool.and_eq_true, decide_eq_true_eq] at h
      obtain ⟨⟨⟨h1, h2⟩, h5⟩, h6⟩ := h
      exact both rfl (snd_sumL ok h1 h2 h5 (toB (sndE a ok tk h6).1))
    · cases h
theorem sndP : ∀ (m : Po) {sc : Scope} {sto : Sto} {X : Cx} {W : WX} {o : Option Expr}, Cok T fa XR c n N sc sto X → Takes X W → ckP T N sc sto m o = true → PO X o (tP fa XR c W H0 X m)
  | .no, sc, sto, X, W, o, ok, tk, h => by
    have h : o.isNone = true := h
    cases o with
    | none => exact snd_po0
    | some => cases h
  | .at a, sc, sto, X, W, o, ok, tk, h => by
    cases o with
    | none => cases h
    | some e =>
      have h : (frz a && ckE T N sc sto a e) = true := h
      rw [Bool.and_eq_true] at h
      exact snd_po1 (toE h.1 (sndE a ok tk h.2).1)
theorem sndEs : ∀ (es : Exs) {sc : Scope} {sto : Sto} {X : Cx} {W : WX} {l : List Expr}, Cok T fa XR c n N sc sto X → Takes X W → ckEs T N sc sto true es l = true → PA X l (tEs fa XR c W H0 X es)
  | .nil, sc, sto, X, W, l, ok, tk, h => by
    cases l with
    | nil => exact snd_es0
    | cons => cases h
  | .cons a r, sc, sto, X, W, l, ok, tk, h => by
    cases l with
    | nil => cases h
    | cons e es =>
      have h : ((!true || frz a) && unstar e && ckE T N sc sto a e && ckEs T N sc sto true r es) = true := h
      simp only [Bool.and_eq_true, Bool.not_true, Bool.false_or] at h
      obtain ⟨⟨⟨h1, h2⟩, h3⟩, h4⟩ := h
      exact snd_es1 h2 (toE h1 (sndE a ok tk h3).1) (sndEs r ok tk h4)
theorem sndBs : ∀ (es : Exs) {sc : Scope} {sto : Sto} {X : Cx} {W : WX} {l : List Expr}, Cok T fa XR c n N sc sto X → Takes X W → ckEs T N sc sto false es l = true → PA X l (tBs fa XR c W H0 X es)
  | .nil, sc, sto, X, W, l, ok, tk, h => by
    cases l with
    | nil => exact snd_bs0
    | cons => cases h
  | .cons a r, sc, sto, X, W, l, ok, tk, h => by
    cases l with
    | nil => cases h
    | cons e es =>
      have h : ((!false || frz a) && unstar e && ckE T N sc sto a e && ckEs T N sc sto false r es) = true := h
      simp only [Bool.and_eq_true] at h
      obtain ⟨⟨⟨h1, h2⟩, h3⟩, h4⟩ := h
      exact snd_bs1 h2 (toB (sndE a ok tk h3).1) (sndBs r ok tk h4)
theorem sndKs : ∀ (es : Exs) {ks : List Tx} {us : List (Option Expr)} {p : Pos} {sc : Scope} {sto : Sto} {X : Cx} {W : WX} {l : List Expr}, Cok T fa XR c n N sc sto X → Takes X W → ckKs ks us = true → lenEs es = ks.length → ckEs T N sc sto true es l = true → PPs X p us l (tKs fa XR c W H0 X ks es)
  | .nil, ks, us, p, sc, sto, X, W, l, ok, tk, hk, hl, h => by
    cases ks with
    | cons => cases hl
    | nil =>
      cases us with
      | cons => cases hk
      | nil =>
        cases l with
        | nil => exact pps_nil
        | cons => cases h
  | .cons a r, ks, us, p, sc, sto, X, W, l, ok, tk, hk, hl, h => by
    cases ks with
    | nil => cases hl
    | cons k ks =>
      cases l with
      | nil => cases h
      | cons e es =>
        have h : ((!true || frz a) && unstar e && ckE T N sc sto a e && ckEs T N sc sto true r es) = true := h
        simp only [Bool.and_eq_true, Bool.not_true, Bool.false_or] at h
        obtain ⟨⟨⟨h1, h2⟩, h3⟩, h4⟩ := h
        obtain ⟨j, pp, us', rfl, hk2⟩ := ckKs_inv hk
        exact pps_cons pe_str (toE h1 (sndE a ok tk h3).1) (sndKs r ok tk hk2 (by simpa [lenEs] using hl) h4)
theorem sndI : ∀ (m : Lb.It) {sc : Scope} {sto : Sto} {X : Cx} {W : WX} {tg e : Expr}, Cok T fa XR c n N sc sto X → Takes X W → ckI T N sc sto m e = true → PI X tg e (tI fa XR c W H0 X m)
  | .seq a, sc, sto, X, W, tg, e, ok, tk, h => by
    have h : (frz a && ckE T N sc sto a e && !isSet e) = true := h
    simp only [Bool.and_eq_true] at h
    exact snd_seq (toE h.1.1 (sndE a ok tk h.1.2).1)
  | .rng1 a, sc, sto, X, W, tg, e, ok, tk, h => by
    have h : (match (generalizing := false) e with
      | .Call (.Name x _) [e] [] _ => decide (x = ("range" : Str)) && glob sc x && unstar e && frz a && ckE T N sc sto a e
      | _ => false) = true := h
    split at h
    · simp only [Bool.and_eq_true, decide_eq_true_eq] at h
      obtain ⟨⟨⟨⟨h1, h2⟩, h3⟩, h4⟩, h5⟩ := h
      exact snd_rng1 ok h1 h2 h3 (toE h4 (sndE a ok tk h5).1)
    · cases h
  | .rng2 a b, sc, sto, X, W, tg, e, ok, tk, h => by
    have h : (match (generalizing := false) e with
      | .Call (.Name x _) [e, e2] [] _ => decide (x = ("range" : Str)) && glob sc x && unstar e && unstar e2 && frz a && frz b && ckE T N sc sto a e && ckE T N sc sto b e2
      | _ => false) = true := h
    split at h
    · simp only [Bool.and_eq_true, decide_eq_true_eq] at h
      obtain ⟨⟨⟨⟨⟨⟨⟨h1, h2⟩, h3⟩, h4⟩, h5⟩, h6⟩, h7⟩, h8⟩ := h
      exact snd_rng2 ok h1 h2 h3 h4 (toE h5 (sndE a ok tk h7).1) (toE h6 (sndE b ok tk h8).1)
    · cases h
  | .enum _, sc, sto, X, W, tg, e, ok, tk, h => by cases h
  | .zip _ _, sc, sto, X, W, tg, e, ok, tk, h => by cases h
  | .own _, sc, sto, X, W, tg, e, ok, tk, h => by cases h
  | .cel _, sc, sto, X, W, tg, e, ok, tk, h => by cases h
theorem sndIc : ∀ (m : Lb.It) {sc : Scope} {sto : Sto} {X : Cx} {W : WX} {tg e : Expr}, Cok T fa XR c n N sc sto X → Takes X W → ckIc T N sc sto m e = true → PI X tg e (tIG fa XR c W H0 X m)
  | .own j, sc, sto, X, W, tg, e, ok, tk, h => pi_own ok h
  | .cel j, sc, sto, X, W, tg, e, ok, tk, h => pi_cel ok h
  | .seq a, sc, sto, X, W, tg, e, ok, tk, h => by
    have h : (frz a && ckE T N sc sto a e && !isSet e) = true := h
    simp only [Bool.and_eq_true] at h
    exact pi_g (snd_seq (toE h.1.1 (sndE a ok tk h.1.2).1))
  | .rng1 a, sc, sto, X, W, tg, e, ok, tk, h => by
    have h : (match (generalizing := false) e with
      | .Call (.Name x _) [e] [] _ => decide (x = ("range" : Str)) && glob sc x && unstar e && frz a && ckE T N sc sto a e
      | _ => false) = true := h
    split at h
    · simp only [Bool.and_eq_true, decide_eq_true_eq] at h
      obtain ⟨⟨⟨⟨h1, h2⟩, h3⟩, h4⟩, h5⟩ := h
      exact pi_g (snd_rng1 ok h1 h2 h3 (toE h4 (sndE a ok tk h5).1))
    · cases h
  | .rng2 a b, sc, sto, X, W, tg, e, ok, tk, h => by
    have h : (match (generalizing := false) e with
      | .Call (.Name x _) [e, e2] [] _ => decide (x = ("range" : Str)) && glob sc x && unstar e && unstar e2 && frz a && frz b && ckE T N sc sto a e && ckE T N sc sto b e2
      | _ => false) = true := h
    split at h
    · simp only [Bool.and_eq_true, decide_eq_true_eq] at h
      obtain ⟨⟨⟨⟨⟨⟨⟨h1, h2⟩, h3⟩, h4⟩, h5⟩, h6⟩, h7⟩, h8⟩ := h
      exact pi_g (snd_rng2 ok h1 h2 h3 h4 (toE h5 (sndE a ok tk h7).1) (toE h6 (sndE b ok tk h8).1))
    · cases h
  | .enum _, sc, sto, X, W, tg, e, ok, tk, h => by cases h
  | .zip _ _, sc, sto, X, W, tg, e, ok, tk, h => by cases h
end
end
end Lb
end
section
set_option Elab.async false
set_option linter.all false
set_option maxRecDepth 100000
namespace Lb
open PySem PySem.Spec PyProof.Rows L2
section
variable {K : PySem.W.Frag} {fa : Fa} {XR : XRel} {W : WX} {w0 w w1 : Wd} {H0 H H1 : Hp} {h h1 : Heap} {σ : Fr} {τ : St} {p : Addr} {o : HO}
/-- what is wanted of a statement's run, seen from the def's entry (w0, H0) and from w -/
def GoodO (K : PySem.W.Frag) (fa : Fa) (XR : XRel) (W : WX) (w0 : Wd) (H0 : Hp) (w : Wd) (o : Out) (D : Ends) : Prop := match o with
  | .nx σ' h' => ∀ w' H' τ', Ext w0 H0 w' H' → Le w w' → Sim K fa w' h' H' → SRep K fa H0 w' H' σ' τ' → D.nx τ' H'
  | .ct σ' h' => ∀ w' H' τ', Ext w0 H0 w' H' → Le w w' → Sim K fa w' h' H' → SRep K fa H0 w' H' σ' τ' → D.ct τ' H'
  | .rt d h' => ∀ w' H' v, Ext w0 H0 w' H' → Le w w' → Sim K fa w' h' H' → w'.R K fa v d → D.rt v H'
  | .ex k d σ' h' => ∀ w' H' τ' cls dx, Ext w0 H0 w' H' → Le w w' → Sim K fa w' h' H' → SRep K fa H0 w' H' σ' τ' → XR k d cls dx H' → W cls dx τ' H'
  | .bad => False
theorem GoodO.le {o : Out} {D : Ends} (g : GoodO K fa XR W w0 H0 w o D) (e : Le w w1) : GoodO K fa XR W w0 H0 w1 o D := by
  cases o with
  | nx σ' h' => exact fun w' H' τ' a b s r => g w' H' τ' a (e.trans b) s r
  | ct σ' h' => exact fun w' H' τ' a b s r => g w' H' τ' a (e.trans b) s r
  | rt d h' => exact fun w' H' v a b s r => g w' H' v a (e.trans b) s r
  | ex k d σ' h' => exact fun w' H' τ' c x a b s r q => g w' H' τ' c x a (e.trans b) s r q
  | bad => exact g
def tS (K : PySem.W.Frag) (fa : Fa) (XR : XRel) (W : WX) (w0 : Wd) (H0 : Hp) (ev : Fr → Heap → Out) : TS := fun D τ H => ∃ (w : Wd) (h : Heap) (σ : Fr), Ext w0 H0 w H ∧ Sim K fa w h H ∧ SRep K fa H0 w H σ τ ∧ GoodO K fa XR W w0 H0 w (ev σ h) D
/-- an expression's run within a statement -/
theorem GoodO.out {α β : Type} {Rel : Wd → Hp → β → α → Prop} {r : R α} {f : α → Heap → Out} {D : Ends} {T : β → Hp → Prop} (e0 : Ext w0 H0 w H) (SR : SRep K fa H0 w H σ τ) (g : GoodO K fa XR W w0 H0 w (r.out σ f) D)
    (st : ∀ d h1 w1 H1 v, r = .ok d h1 → Ext w0 H0 w1 H1 → Ext w H w1 H1 → Sim K fa w1 h1 H1 → SRep K fa H0 w1 H1 σ τ → Rel w1 H1 v d → GoodO K fa XR W w0 H0 w1 (f d h1) D → T v H1) : Good K fa Rel XR W τ w H r T := by
  cases r with
  | ok d h1 => exact fun w1 H1 v e s q => st d h1 w1 H1 v rfl (e0.trans e) e s (SR.ext e) q (GoodO.le (o := f d h1) g e.le)
  | ex k d h1 => exact fun w1 H1 c x e s q => g w1 H1 τ c x (e0.trans e) e.le s (SR.ext e) q
  | bad => exact g
theorem _root_.L2.PS.imp {X : Cx} {st : Stmt} {t t' : TS} (h : PS X st t) (i : ∀ D σ H, t' D σ H → t D σ H) : PS X st t' := ⟨fun pins s σ H D I q => h.run pins s σ H D I (i D σ H q)⟩
theorem _root_.L2.PSs.imp {X : Cx} {st : List Stmt} {t t' : TS} (h : PSs X st t) (i : ∀ D σ H, t' D σ H → t D σ H) : PSs X st t' := ⟨fun pins s σ H D I q => h.run pins s σ H D I (i D σ H q)⟩

theorem getv {σ : Fr} {i : Nat} {x y : Sl} (h : (σ.set i x)[i]? = some y) : x = y := by
  have lt := (List.getElem?_eq_some_iff.mp h).1
  rw [List.length_set] at lt
  rw [List.getElem?_set_self lt] at h
  exact Option.some.inj h
/-- a list of one's own is put into a slot -/
theorem SRep.setown (s : SRep K fa H0 w H σ τ) {i : Nat} {xs : List D} {vs : List V} (a : H p = some (.lst vs)) (b : w.RL K fa vs xs) (c : w.F p = none) (d : p ∉ w.al) (e : H0 p = none)
    (f : ∀ (j : Nat) ys q, σ[j]? = some (.own ys) → τ[j]? = some (some (.ref q)) → q ≠ p) : SRep K fa H0 w H (σ.set i (.own xs)) (τ.set i (some (.ref p))) where
  len := by rw [List.length_set, List.length_set]; exact s.len
  val := fun j u h => by
    by_cases q : i = j
    · subst q; cases getv h
    · rw [List.getElem?_set_ne q] at h ⊢
      exact s.val j u h
  own := fun j ys h => by
    by_cases q : i = j
    · subst q
      have lt := (List.getElem?_eq_some_iff.mp h).1
      rw [List.length_set] at lt
      have z := getv h
      cases z
      exact ⟨p, vs, List.getElem?_set_self (by rw [← s.len]; exact lt), a, b, c, d, e⟩
    · rw [List.getElem?_set_ne q] at h ⊢
      exact s.own j ys h
  apart := fun j k xs ys q h1 h2 h3 h4 => by
    by_cases q1 : i = j
    · by_cases q2 : i = k
      · exact q1.symm.trans q2
      · subst q1
        have lt := (List.getElem?_eq_some_iff.mp h1).1
        rw [List.length_set, s.len] at lt
        rw [List.getElem?_set_self lt] at h3
        cases h3
        rw [List.getElem?_set_ne q2] at h2 h4
        exact absurd rfl (f k ys _ h2 h4)
    · by_cases q2 : i = k
      · subst q2
        have lt := (List.getElem?_eq_some_iff.mp h2).1
        rw [List.length_set, s.len] at lt
        rw [List.getElem?_set_self lt] at h4
        cases h4
        rw [List.getElem?_set_ne q1] at h1 h3
        exact absurd rfl (f j xs _ h1 h3)
      · rw [List.getElem?_set_ne q1] at h1 h3
        rw [List.getElem?_set_ne q2] at h2 h4
        exact s.apart j k xs ys q h1 h2 h3 h4
/-- a list of one's own changes -/
theorem SRep.chg (s : SRep K fa H0 w H σ τ) {i : Nat} {xs ys : List D} {vs : List V} (h1 : σ[i]? = some (.own xs)) (h2 : τ[i]? = some (some (.ref p))) (b : w.RL K fa vs ys) : SRep K fa H0 w (upd H p (.lst vs)) (σ.set i (.own ys)) τ where
  len := by rw [List.length_set]; exact s.len
  val := fun j u h => by
    by_cases q : i = j
    · subst q; cases getv h
    · rw [List.getElem?_set_ne q] at h
      exact s.val j u h
  own := fun j zs h => by
    by_cases q : i = j
    · subst q
      have z := getv h
      cases z
      obtain ⟨q, us, a1, a2, a3, a4, a5, a6⟩ := s.own i xs h1
      rw [h2] at a1; cases a1
      exact ⟨p, vs, h2, upd_same, b, a4, a5, a6⟩
    · rw [List.getElem?_set_ne q] at h
      obtain ⟨r, us, a1, a2, a3, a4, a5, a6⟩ := s.own j zs h
      exact ⟨r, us, a1, by rw [upd_ne (fun z => by subst z; exact q (s.apart i j _ _ _ h1 h h2 a1))]; exact a2, a3, a4, a5, a6⟩
  apart := fun j k xs' ys' q g1 g2 g3 g4 => by
    have back : ∀ (m : Nat) us, (σ.set i (.own ys))[m]? = some (.own us) → ∃ us', σ[m]? = some (.own us') := fun m us g => by
      by_cases z : i = m
      · subst z; exact ⟨xs, h1⟩
      · rw [List.getElem?_set_ne z] at g; exact ⟨us, g⟩
    obtain ⟨u1, k1⟩ := back j _ g1
    obtain ⟨u2, k2⟩ := back k _ g2
    exact s.apart j k _ _ q k1 k2 g3 g4
/-- a list of one's own is frozen -/
theorem SRep.frz (s : SRep K fa H0 w H σ τ) {i : Nat} {xs : List D} {vs : List V} (h1 : σ[i]? = some (.own xs)) (h2 : τ[i]? = some (some (.ref p))) (a : w.RL K fa vs xs) (nf : w.F p = none) : SRep K fa H0 (w.add p (.lst vs)) H (σ.set i (.v (.lst xs))) τ := by
  have hF : ∀ b u, w.F b = some u → (w.add p (.lst vs)).F b = some u := fun b u z => by
    show upd w.F p _ b = _
    rw [upd_ne (fun y => by subst y; rw [nf] at z; cases z)]
    exact z
  have mono : ∀ {v : V} {d : D}, w.R K fa v d → (w.add p (.lst vs)).R K fa v d := fun r => Rep.mono hF (fun _ _ z => z) r
  refine ⟨by rw [List.length_set]; exact s.len, fun j u h => ?_, fun j ys h => ?_, fun j k xs' ys' q g1 g2 g3 g4 => ?_⟩
  · by_cases q : i = j
    · subst q
      have z := getv h
      cases z
      exact ⟨_, h2, .lst (show upd w.F p _ p = _ from upd_same) (RepL.mono hF (fun _ _ z => z) a)⟩
    · rw [List.getElem?_set_ne q] at h
      obtain ⟨v, b1, b2⟩ := s.val j u h
      exact ⟨v, b1, mono b2⟩
  · by_cases q : i = j
    · subst q; cases getv h
    · rw [List.getElem?_set_ne q] at h
      obtain ⟨r, us, a1, a2, a3, a4, a5, a6⟩ := s.own j ys h
      refine ⟨r, us, a1, a2, RepL.mono hF (fun _ _ z => z) a3, ?_, a5, a6⟩
      show upd w.F p _ r = _
      rw [upd_ne (fun z => by subst z; exact q (s.apart i j _ _ _ h1 h h2 a1))]
      exact a4
  · have back : ∀ (m : Nat) us, (σ.set i (.v (.lst xs)))[m]? = some (.own us) → σ[m]? = some (.own us) := fun m us g => by
      by_cases z : i = m
      · subst z; cases getv g
      · rw [List.getElem?_set_ne z] at g; exact g
    exact s.apart j k _ _ q (back _ _ g1) (back _ _ g2) g3 g4
theorem _root_.List.Nodup.getElem?_inj' {α : Type} : ∀ {l : List α} {i j : Nat} {x : α}, l.Nodup → l[i]? = some x → l[j]? = some x → i = j
  | [], _, _, _, _, h, _ => by simp at h
  | a :: l, 0, 0, _, _, _, _ => rfl
  | a :: l, 0, j + 1, x, n, h, k => by
    simp only [List.getElem?_cons_zero, Option.some.injEq, List.getElem?_cons_succ] at h k
    subst h
    exact absurd (List.mem_of_getElem? k) (List.nodup_cons.mp n).1
  | a :: l, i + 1, 0, x, n, h, k => by
    simp only [List.getElem?_cons_zero, Option.some.injEq, List.getElem?_cons_succ] at h k
    subst k
    exact absurd (List.mem_of_getElem? h) (List.nodup_cons.mp n).1
  | a :: l, i + 1, j + 1, x, n, h, k => by
    simp only [List.getElem?_cons_succ] at h k
    rw [List.Nodup.getElem?_inj' (List.nodup_cons.mp n).2 h k]
/-- the heap changes elsewhere -/
theorem SRep.cell (s : SRep K fa H0 w H σ τ) (m : p ∈ w.al) : SRep K fa H0 w (upd H p o) σ τ where
  len := s.len
  val := s.val
  own := fun j ys h => by
    obtain ⟨r, us, a1, a2, a3, a4, a5, a6⟩ := s.own j ys h
    exact ⟨r, us, a1, by rw [upd_ne (fun z => by subst z; exact a5 m)]; exact a2, a3, a4, a5, a6⟩
  apart := s.apart
theorem Ext.cell (e : Ext w0 H0 w H) (m : p ∈ w.al) : Ext w0 H0 w (upd H p o) where
  F := e.F
  al := e.al
  keep := fun q u a b => by
    rw [upd_ne (fun z => by
      subst z
      rcases e.new _ m with y | y
      · exact b y
      · rw [a] at y; cases y)]
    exact e.keep q u a b
  tr := fun q u a => by
    by_cases z : q = p
    · subst z; exact ⟨o, upd_same⟩
    · rw [upd_ne z]; exact e.tr q u a
  new := e.new
  frz := e.frz
theorem Sim.setCell (S : Sim K fa w h H) {i : Nat} {x : Cell} (ha : w.al[i]? = some p) (r : CellR K fa w x (some o)) : Sim K fa w (h.set i x) (upd H p o) where
  sub := fun q u a => by
    rw [upd_ne (fun z => by subst z; rw [S.out _ (List.mem_of_getElem? ha)] at a; cases a)]
    exact S.sub q u a
  nd := S.nd
  out := S.out
  len := by rw [List.length_set]; exact S.len
  cell := fun j y a => by
    by_cases z : i = j
    · subst z
      have lt := (List.getElem?_eq_some_iff.mp a).1
      rw [List.length_set] at lt
      rw [List.getElem?_set_self lt] at a
      cases a
      exact ⟨p, ha, by rw [upd_same]; exact r⟩
    · rw [List.getElem?_set_ne z] at a
      obtain ⟨q, e1, e2⟩ := S.cell j y a
      refine ⟨q, e1, ?_⟩
      rw [upd_ne (fun y => by
        subst y
        exact z (List.Nodup.getElem?_inj' S.nd ha e1))]
      exact e2
theorem upd_id {v : HO} (a : H p = some v) : upd H p v = H := by
  funext b
  by_cases y : b = p
  · subst y; rw [upd_same, a]
  · rw [upd_ne y]
/-- .. the world in which it is frozen -/
theorem Ext.sealO {vs : List V} (e : Ext w0 H0 w H) (a : H p = some (.lst vs)) (n : H0 p = none) (nf : w.F p = none) : Ext w0 H0 (w.add p (.lst vs)) H := by
  have z := e.seal1 (o := .lst vs) n nf
  rw [upd_id a] at z
  exact z
theorem Sim.sealO {vs : List V} (S : Sim K fa w h H) (a : H p = some (.lst vs)) (nf : w.F p = none) (na : p ∉ w.al) : Sim K fa (w.add p (.lst vs)) h H := by
  have z := S.seal1 (o := .lst vs) nf na
  rw [upd_id a] at z
  exact z
theorem Le.add (nf : w.F p = none) : Le w (w.add p o) := ⟨fun b u z => by
    show upd w.F p o b = _
    rw [upd_ne (fun y => by subst y; rw [nf] at z; cases z)]
    exact z, fun _ _ z => z⟩
/-- .. becomes a list of the heap -/
theorem Sim.newCell {xs : List D} {vs : List V} (S : Sim K fa w h H) (a : H p = some (.lst vs)) (r : w.RL K fa vs xs) (nf : w.F p = none) (na : p ∉ w.al) : Sim K fa ⟨w.F, w.al ++ [p]⟩ (h ++ [.lst xs]) H where
  sub := S.sub
  nd := by
    show (w.al ++ [p]).Nodup
    rw [List.nodup_append]
    refine ⟨S.nd, by simp, fun a ha b hb => ?_⟩
    rw [List.mem_singleton.mp hb]
    exact fun z => na (by rw [← z]; exact ha)
  out := fun b m => (List.mem_append.mp m).elim (S.out b) fun z => by rw [List.mem_singleton.mp z]; exact nf
  len := by
    show _ = (w.al ++ [p]).length
    rw [List.length_append, List.length_append, S.len]; rfl
  cell := fun i x z => by
    have hal : ∀ (i : Nat) b, w.al[i]? = some b → (w.al ++ [p])[i]? = some b := fun i b z => by
      rw [List.getElem?_append_left (List.getElem?_eq_some_iff.mp z).1]; exact z
    by_cases hi : i < h.length
    · rw [List.getElem?_append_left hi] at z
      obtain ⟨b, y1, y2⟩ := S.cell i x z
      exact ⟨b, hal i b y1, CellR.mono (w := w) (w' := ⟨w.F, w.al ++ [p]⟩) (fun _ _ z => z) hal y2⟩
    · have hi2 : i = h.length := by
        have := (List.getElem?_eq_some_iff.mp z).1
        rw [List.length_append, List.length_singleton] at this
        omega
      subst hi2
      rw [List.getElem?_append_right (Nat.le_refl _), Nat.sub_self] at z
      cases z
      refine ⟨p, ?_, ?_⟩
      · show (w.al ++ [p])[h.length]? = some p
        rw [S.len, List.getElem?_append_right (Nat.le_refl _), Nat.sub_self]; rfl
      · rw [a]; exact RepL.mono (fun _ _ z => z) hal r
theorem Ext.newCell (e : Ext w0 H0 w H) (n : H0 p = none) : Ext w0 H0 ⟨w.F, w.al ++ [p]⟩ H :=
  ⟨e.F, fun i b z => by
    show (w.al ++ [p])[i]? = some b
    rw [List.getElem?_append_left (List.getElem?_eq_some_iff.mp (e.al i b z)).1]; exact e.al i b z, e.keep, e.tr, fun b m => (List.mem_append.mp m).elim (e.new b) fun z => .inr (by rw [List.mem_singleton.mp z]; exact n), e.frz⟩
theorem Le.newCell : Le w ⟨w.F, w.al ++ [p]⟩ := ⟨fun _ _ z => z, fun i b z => by
  show (w.al ++ [p])[i]? = some b
  rw [List.getElem?_append_left (List.getElem?_eq_some_iff.mp z).1]; exact z⟩
theorem SRep.cel (s : SRep K fa H0 w H σ τ) {i : Nat} {xs : List D} (len : h.length = w.al.length) (h1 : σ[i]? = some (.own xs)) (h2 : τ[i]? = some (some (.ref p))) : SRep K fa H0 ⟨w.F, w.al ++ [p]⟩ H (σ.set i (.v (.cell h.length))) τ := by
  have mono : ∀ {v : V} {d : D}, w.R K fa v d → Wd.R ⟨w.F, w.al ++ [p]⟩ K fa v d := fun r => Rep.mono Le.newCell.F (Le.newCell (p := p)).al r
  refine ⟨by rw [List.length_set]; exact s.len, fun j u h => ?_, fun j ys h => ?_, fun j k xs' ys' q g1 g2 g3 g4 => ?_⟩
  · by_cases q : i = j
    · subst q
      have z := getv h
      cases z
      refine ⟨_, h2, .cell ?_⟩
      show (w.al ++ [p])[_]? = some p
      rw [len, List.getElem?_append_right (Nat.le_refl _), Nat.sub_self]; rfl
    · rw [List.getElem?_set_ne q] at h
      obtain ⟨v, b1, b2⟩ := s.val j u h
      exact ⟨v, b1, mono b2⟩
  · by_cases q : i = j
    · subst q; cases getv h
    · rw [List.getElem?_set_ne q] at h
      obtain ⟨r, us, a1, a2, a3, a4, a5, a6⟩ := s.own j ys h
      refine ⟨r, us, a1, a2, RepL.mono Le.newCell.F (Le.newCell (p := p)).al a3, a4, fun m => ?_, a6⟩
      rcases List.mem_append.mp m with m | m
      · exact a5 m
      · rw [List.mem_singleton.mp m] at a1
        exact q (s.apart i j _ _ _ h1 h h2 a1)
  · have back : ∀ (m : Nat) us, (σ.set i (.v (.cell h.length)))[m]? = some (.own us) → σ[m]? = some (.own us) := fun m us g => by
      by_cases z : i = m
      · subst z; cases getv g
      · rw [List.getElem?_set_ne z] at g; exact g
    exact s.apart j k _ _ q (back _ _ g1) (back _ _ g2) g3 g4
end
end Lb
end
section
set_option Elab.async false
set_option linter.all false
set_option maxRecDepth 100000
namespace Lb
open PySem PySem.Spec PyProof.Rows L2
section
variable {fa : Fa} {XR : XRel} {c : Cl} {W : WX} {w0 : Wd} {H0 : Hp} {X : Cx} {T : Tb} {n : Nat} {N : List Str} {sc : Scope} {sto : Sto}
/-- the reading of a statement -/
def tSt (fa : Fa) (XR : XRel) (c : Cl) (W : WX) (w0 : Wd) (H0 : Hp) (X : Cx) (s : S) : TS := tS X.K fa XR W w0 H0 (evS c s)
def tSs (fa : Fa) (XR : XRel) (c : Cl) (W : WX) (w0 : Wd) (H0 : Hp) (X : Cx) (s : Ss) : TS := tS X.K fa XR W w0 H0 (evSs c s)

theorem swF {e t : Expr} {l : Nat} {env : PySem.Env} (h : isComp e = false) : swapsWith e (some t) l env = pure false := by
  cases e <;> first | rfl | (simp [isComp] at h; done)
theorem swN {e : Expr} {l : Nat} {env : PySem.Env} (h : isComp e = false) : swapsWith e none l env = pure false := by
  cases e <;> first | rfl | (simp [isComp] at h; done)
/-- the store's rule: by the line on which a comprehension stands -/
def setOk (sc : Scope) (y : Str) (py : Pos) (e : Expr) : Bool := match e with
  | .ListComp _ _ sp p => if py.line == p.line then (match sc.names.lookup y with
      | some .local => true
      | _ => false) && !(sp.names.any fun (n, k) => n == y && (k == .local || k == .cell)) else true
  | .SetComp .. => false
  | .DictComp .. => false
  | _ => true
theorem sw_line {elt : Expr} {gs : List Comprehension} {scope : Scope} {pos py : Pos} {y : Str} {l : Nat} {env : PySem.Env} (hl : (py.line == pos.line) = false) : swapsWith (.ListComp elt gs scope pos) (some (.Name y py)) l env = pure false := by
  unfold swapsWith
  simp only [Expr.pos, hl, Bool.and_false, Bool.false_and]
theorem loc_of {x : Str} (h : (match sc.names.lookup x with
      | some .local => true
      | _ => false) = true) : sc.names.lookup x = some .local := by
  split at h
  · assumption
  · cases h
theorem ps_kind {st : Stmt} {t : TS} (h : X.env.scope.kind = .function → PS X st t) : PS X st t := ⟨fun pins s σ H D I q => (h I.ok.kind).run pins s σ H D I q⟩
theorem set_any (ok : Cok T fa XR c n N sc sto X) (tk : Takes X W) {i : Nat} {y : Str} {e : Expr} {py pos : Pos} : ∀ {m : Ex} (h : ckE T N sc sto m e = true) (hi : N[i]? = some y) (hs : sto y = true) (hc : setOk sc y py e = true),
    PS X (.Assign [.Name y py] e pos) (tAsg (tX fa XR c W H0 X m) (gName i)) := by
  intro m h hi hs hc
  have hc0 := hc
  obtain ⟨l, f⟩ := ok.sto y hs
  have hi' : X.N[i]? = some y := by rw [ok.N]; exact hi
  have plain : (swapsWith e (some (.Name y py)) pos.line X.env = pure false) → PS X (.Assign [.Name y py] e pos) (tAsg (tX fa XR c W H0 X m) (gName i)) := fun z =>
    ps_set ok.nd hi' l (sndE m ok tk h).1 z f
  unfold setOk at hc
  split at hc
  · rename_i elt gs sp p
    by_cases hl : (py.line == p.line) = true
    · rw [if_pos hl, Bool.and_eq_true, Bool.not_eq_true'] at hc
      have hy := loc_of hc.1
      refine ps_kind fun hk => ?_
      have sw : swapsWith (.ListComp elt gs sp p) (some (.Name y py)) pos.line X.env = pure true := sw_true hk (by rw [ok.sc]; exact hy) hl hc.2
      cases m with
      | comp tg it el =>
        have h : (match (generalizing := false) Expr.ListComp elt gs sp p with
          | .ListComp e [⟨t, i, [], 0⟩] sp _ => frz el && ckIc T N sc sto it i && blkC N sc sp (ownOf N tg.slots) && ckTg N (stoS sp) tg t && ckE T N (relS sp sc) (stoS sp) el e && !isSet i
          | _ => false) = true := h
        split at h
        · rename_i z
          cases z
          simp only [Bool.and_eq_true, Bool.not_eq_true'] at h
          obtain ⟨⟨⟨⟨⟨h1, h2⟩, h3⟩, h4⟩, h5⟩, h6⟩ := h
          have hb : BlkOk X.N X.env.scope sp (ownOf N tg.slots) := by
            rw [ok.N, ok.sc]
            exact blkOk_by h3
          exact (ps_setLc (g := tG fa H0 X tg) (tt := tYes) (te := Lb.tE fa XR c W0 H0 X el) ok.calm ok.nd hi' (by rw [ok.sc]; exact hy) sw (sndIc it ok tk h2) hb (fun s H C cl fp => snd_tg (ok.blk s H cl C fp) h4) (fun s H C cl fp => pts_nil) (fun s H C cl fp => toE h1 (sndE el (ok.blk s H cl C fp) tk0 h5).1) (fold_ok h6 X.env)).imp fun D τ H q => rd_comp q
        · cases h
      | compIf tg it cn el =>
        have h : (match (generalizing := false) Expr.ListComp elt gs sp p with
          | .ListComp e [⟨t, i, [c], 0⟩] sp _ => frz el && frz cn && ckIc T N sc sto it i && blkC N sc sp (ownOf N tg.slots) && ckTg N (stoS sp) tg t && ckE T N (relS sp sc) (stoS sp) cn c && ckE T N (relS sp sc) (stoS sp) el e && !isSet i
          | _ => false) = true := h
        split at h
        · rename_i z
          cases z
          simp only [Bool.and_eq_true, Bool.not_eq_true'] at h
          obtain ⟨⟨⟨⟨⟨⟨⟨h1, h0⟩, h2⟩, h3⟩, h4⟩, h5⟩, h6⟩, h7⟩ := h
          have hb : BlkOk X.N X.env.scope sp (ownOf N tg.slots) := by
            rw [ok.N, ok.sc]
            exact blkOk_by h3
          exact (ps_setLc (g := tG fa H0 X tg) (tt := tT fa XR c W0 H0 X cn) (te := Lb.tE fa XR c W0 H0 X el) ok.calm ok.nd hi' (by rw [ok.sc]; exact hy) sw (sndIc it ok tk h2) hb (fun s H C cl fp => snd_tg (ok.blk s H cl C fp) h4) (fun s H C cl fp => pts_one (sndE cn (ok.blk s H cl C fp) tk0 h5).2) (fun s H C cl fp => toE h1 (sndE el (ok.blk s H cl C fp) tk0 h6).1) (fold_ok h7 X.env)).imp fun D τ H q => rd_compIf q
        · cases h
      | mk a =>
        have h : (decide (form a = .new) && ckE T N sc sto a (.ListComp elt gs sp p)) = true := h
        simp only [Bool.and_eq_true, decide_eq_true_eq] at h
        exact (set_any ok tk h.2 hi hs hc0).imp fun D τ H q => rd_mk h.1 q
      | _ => exact absurd (show false = true from h) (by decide)
    · exact plain (sw_line (by simpa using hl))
  · cases hc
  · cases hc
  · rename_i z1 z2 z3
    refine plain (swF ?_)
    cases e <;> first | rfl | exact absurd rfl (z1 _ _ _ _) | exact absurd rfl (z2 _ _ _ _) | exact absurd rfl (z3 _ _ _ _ _)
end
end Lb
end
section
set_option Elab.async false
set_option linter.all false
set_option maxRecDepth 100000
namespace Lb
open PySem PySem.Spec PyProof.Rows L2
section
variable {fa : Fa} {XR : XRel} {c : Cl} {W : WX} {w0 : Wd} {H0 : Hp} {X : Cx} {T : Tb} {n : Nat} {N : List Str} {sc : Scope} {sto : Sto}
theorem rdE {m : Ex} (hf : frz m = true) {τ : St} {H : Hp} {Q : VK} : Lb.tE fa XR c W H0 X m τ H Q → tX fa XR c W H0 X m τ H Q := fun ⟨w, hh, s, S, SR, g⟩ => ⟨w, hh, s, S, SR, Good.freeze (of_decide_eq_true hf) g⟩
theorem rd_asg {tg : Tg} {m : Ex} {En : Ends} {τ : St} {H : Hp} : tSt fa XR c W w0 H0 X (.asg tg m) En τ H → tAsg (Lb.tE fa XR c W H0 X m) (tG fa H0 X tg) En τ H := fun ⟨w, h, σ, e0, S, SR, g⟩ =>
  ⟨w, h, σ, S, SR, GoodO.out (f := fun x h1 => match tg.set x σ with
    | some σ1 => Out.nx σ1 h1
    | none => Out.bad) e0 SR g fun d h1 w1 H1 v _ e1 ee S1 SR1 r1 g1 => by
      cases es : tg.set d σ with
      | none => rw [es] at g1; exact (show False from g1).elim
      | some σ' =>
        rw [es] at g1
        exact ⟨w1, h1, σ, σ', d, S1, SR1, r1, es, fun τ' SR' _ => g1 w1 H1 τ' e1 Le.refl S1 SR'⟩⟩
theorem rd_nm {i : Nat} {m : Ex} {En : Ends} {τ : St} {H : Hp} (hf : frz m = true) : tSt fa XR c W w0 H0 X (.asg (.nm i) m) En τ H → tAsg (tX fa XR c W H0 X m) (gName i) En τ H := fun ⟨w, h, σ, e0, S, SR, g⟩ => rdE hf
  ⟨w, h, σ, S, SR, GoodO.out (f := fun x h1 => Out.nx (σ.set i (.v x)) h1) e0 SR g fun d h1 w1 H1 v _ e1 ee S1 SR1 r1 g1 => g1 w1 H1 _ e1 Le.refl S1 (SR1.setv r1)⟩
theorem snd_set (ok : Cok T fa XR c n N sc sto X) (tk : Takes X W) {m : Ex} {i : Nat} {y : Str} {e : Expr} {py pos : Pos} (hf : frz m = true) (h : ckE T N sc sto m e = true) (hi : N[i]? = some y) (hs : sto y = true) (hc : setOk sc y py e = true) :
    PS X (.Assign [.Name y py] e pos) (tSt fa XR c W w0 H0 X (.asg (.nm i) m)) := (set_any (H0 := H0) ok tk h hi hs hc).imp fun En τ H q => rd_nm hf q
theorem rd_own {i : Nat} {m : Ex} {En : Ends} {τ : St} {H : Hp} (hf : form m = .new) : tSt fa XR c W w0 H0 X (.own i m) En τ H → tAsg (tX fa XR c W H0 X m) (gName i) En τ H := fun ⟨w, h, σ, e0, S, SR, g⟩ =>
  ⟨w, h, σ, S, SR, by
    show Good X.K fa (RelF X.K fa (form m) H) XR W τ w H (evE c σ m h) _
    rw [hf]
    exact GoodO.out (f := fun (x : Lb.D) h1 => match x with
    | Lb.D.lst xs => Out.nx (σ.set i (.own xs)) h1
    | _ => Out.bad) e0 SR g fun d h1 w1 H1 v _ e1 ee S1 SR1 r1 g1 => by
      cases d with
      | lst xs =>
        rcases r1 with ⟨_, z⟩ | ⟨p, vs, ys, rfl, ey, q1, q2, q3, q4, q5⟩
        · exact absurd rfl (z xs)
        · cases ey
          refine g1 w1 H1 _ e1 Le.refl S1 (SR1.setown q1 q2 q3 q4 (none_of_tr e0.tr q5) fun j us q a b => ?_)
          obtain ⟨r, _, b1, b2, _⟩ := SR.own j us a
          rw [b] at b1; cases b1
          exact fun z => by subst z; rw [q5] at b2; cases b2
      | _ => exact (show False from g1).elim⟩
theorem snd_own (ok : Cok T fa XR c n N sc sto X) (tk : Takes X W) {m : Ex} {i : Nat} {y : Str} {e : Expr} {py pos : Pos} (hf : form m = .new) (h : ckE T N sc sto m e = true) (hi : N[i]? = some y) (hs : sto y = true) (hc : setOk sc y py e = true) :
    PS X (.Assign [.Name y py] e pos) (tSt fa XR c W w0 H0 X (.own i m)) := (set_any (H0 := H0) ok tk h hi hs hc).imp fun En τ H q => rd_own hf q
def isTupE : Expr → Bool
  | .Tuple .. => true
  | .List .. => true
  | _ => false
theorem snd_tup_set (ok : Cok T fa XR c n N sc sto X) (tk : Takes X W) {tg : Tg} {m : Ex} {es : List Expr} {kk : Nat} {e : Expr} {py pos : Pos} (hf : frz m = true) (h : ckE T N sc sto m e = true) (ht : ckTg N sto tg (.Tuple es kk py) = true) (hc : isTupE e = false) :
    PS X (.Assign [.Tuple es kk py] e pos) (tSt fa XR c W w0 H0 X (.asg tg m)) := by
  refine (ps_asg (toE (H0 := H0) hf (sndE m ok tk h).1) (snd_tg ok ht) ?_ ?_).imp fun En τ H q => rd_asg q
  · cases e <;> rfl
  · cases e <;> first | rfl | (simp [isTupE] at hc; done)
theorem snd_setix (ok : Cok T fa XR c n N sc sto X) (tk : Takes X W) {o i m : Ex} {eo ei e : Expr} {py pos : Pos} (hf : frz m = true) (h : ckE T N sc sto m e = true) (ho : frz o = true) (h2 : ckE T N sc sto o eo = true) (hi : frz i = true) (h3 : ckE T N sc sto i ei = true) (hs : isSlice ei = false) :
    PS X (.Assign [.Subscript eo ei py] e pos) (tSt fa XR c W w0 H0 X (.setix o i m)) := by
  refine (ps_asg (toE (H0 := H0) hf (sndE m ok tk h).1) (pg_sub (toE (H0 := H0) (XR := XR) (c := c) ho (sndE o ok tk h2).1) (toE (H0 := H0) hi (sndE i ok tk h3).1) set_list ?_) ?_ ?_).imp fun En τ H q => ?_
  · intro v
    cases ei <;> first | rfl | (simp [isSlice] at hs; done)
  · cases e <;> rfl
  · cases e <;> rfl
  · obtain ⟨w, h, σ, e0, S, SR, g⟩ := q
    refine ⟨w, h, σ, S, SR, GoodO.out (f := fun x h1 => (evE c σ o h1).out σ fun y h2 => (evE c σ i h2).out σ fun (z : Lb.D) h3 => match y, z with
      | Lb.D.cell a, Lb.D.int k => match h3[a]? with
        | some (Cell.lst xs) => match Lb.ixN xs.length k with
          | some j => Out.nx σ (h3.set a (Cell.lst (xs.set j x)))
          | none => Out.bad
        | _ => Out.bad
      | _, _ => Out.bad) e0 SR g fun d h1 w1 H1 v _ e1 ee S1 SR1 r1 g1 => ?_⟩
    refine ⟨w1, h1, σ, S1, SR1, GoodO.out (f := fun y h2 => (evE c σ i h2).out σ fun (z : Lb.D) h3 => match y, z with
      | Lb.D.cell a, Lb.D.int k => match h3[a]? with
        | some (Cell.lst xs) => match Lb.ixN xs.length k with
          | some j => Out.nx σ (h3.set a (Cell.lst (xs.set j d)))
          | none => Out.bad
        | _ => Out.bad
      | _, _ => Out.bad) e1 SR1 g1 fun d2 h2 w2 H2 v2 _ e2 ee2 S2 SR2 r2 g2 => ?_⟩
    refine ⟨w2, h2, σ, S2, SR2, GoodO.out (f := fun (z : Lb.D) h3 => match (generalizing := false) d2, z with
      | Lb.D.cell a, Lb.D.int k => match h3[a]? with
        | some (Cell.lst xs) => match Lb.ixN xs.length k with
          | some j => Out.nx σ (h3.set a (Cell.lst (xs.set j d)))
          | none => Out.bad
        | _ => Out.bad
      | _, _ => Out.bad) e2 SR2 g2 fun d3 h3 w3 H3 v3 _ e3 ee3 S3 SR3 r3 g3 => ?_⟩
    cases d2 with
    | cell a =>
      cases d3 with
      | int k =>
        have g3 : GoodO X.K fa XR W w0 H0 w3 (match h3[a]? with
          | some (Cell.lst xs) => match Lb.ixN xs.length k with
            | some j => Out.nx σ (h3.set a (Cell.lst (xs.set j d)))
            | none => Out.bad
          | _ => Out.bad) En := g3
        cases ea : h3[a]? with
        | none => rw [ea] at g3; exact (show False from g3).elim
        | some cc =>
          rw [ea] at g3
          cases cc with
          | lst xs =>
            have g3 : GoodO X.K fa XR W w0 H0 w3 (match Lb.ixN xs.length k with
              | some j => Out.nx σ (h3.set a (Cell.lst (xs.set j d)))
              | none => Out.bad) En := g3
            cases ej : Lb.ixN xs.length k with
            | none => rw [ej] at g3; exact (show False from g3).elim
            | some j =>
              rw [ej] at g3
              obtain ⟨p, ep, cr⟩ := S3.cell a _ ea
              have r2' := ee3.R r2
              cases r2' with
              | cell q =>
                rw [ep] at q; cases q
                cases r3
                unfold CellR at cr
                split at cr
                · rename_i xs' vs y1 y2
                  cases y1
                  have hm := List.mem_of_getElem? ep
                  have rd := ee3.R (ee2.R r1)
                  refine ⟨p, vs, k, j, rfl, rfl, y2, by rw [cr.length]; exact ej, ?_⟩
                  exact g3 w3 _ τ (e3.cell hm) Le.refl (S3.setCell ep (show CellR X.K fa w3 (.lst _) (some (.lst _)) from RepL.set rd j cr)) (SR3.cell hm)
                · rename_i y1 _; cases y1
                · exact cr.elim
          | dic xs => exact (show False from g3).elim
          | ins _ _ => exact (show False from g3).elim
      | _ => exact (show False from g3).elim
    | _ => exact (show False from g3).elim
theorem pe_slot (ok : Cok T fa XR c n N sc sto X) {j : Nat} {e : Expr} (h : ckVar N sc j e = true) : PE X e (tVar j) := ckVar_of ok h
theorem snd_setown (ok : Cok T fa XR c n N sc sto X) (tk : Takes X W) {j : Nat} {i m : Ex} {eo ei e : Expr} {py pos : Pos} (hf : frz m = true) (h : ckE T N sc sto m e = true) (h2 : ckVar N sc j eo = true) (hi : frz i = true) (h3 : ckE T N sc sto i ei = true) (hs : isSlice ei = false) :
    PS X (.Assign [.Subscript eo ei py] e pos) (tSt fa XR c W w0 H0 X (.setown j i m)) := by
  refine (ps_asg (toE (H0 := H0) hf (sndE m ok tk h).1) (pg_sub (pe_slot ok h2) (toE (H0 := H0) (XR := XR) (c := c) hi (sndE i ok tk h3).1) set_list ?_) ?_ ?_).imp fun En τ H q => ?_
  · intro v
    cases ei <;> first | rfl | (simp [isSlice] at hs; done)
  · cases e <;> rfl
  · cases e <;> rfl
  · obtain ⟨w, h, σ, e0, S, SR, g⟩ := q
    refine ⟨w, h, σ, S, SR, GoodO.out (f := fun x h1 => match σ[j]? with
      | some (Sl.own xs) => (evE c σ i h1).out σ fun (z : Lb.D) h3 => match z with
        | Lb.D.int k => match Lb.ixN xs.length k with
          | some n => Out.nx (σ.set j (.own (xs.set n x))) h3
          | none => Out.bad
        | _ => Out.bad
      | _ => Out.bad) e0 SR g fun d h1 w1 H1 v _ e1 ee S1 SR1 r1 g1 => ?_⟩
    cases es : σ[j]? with
    | none => rw [es] at g1; exact (show False from g1).elim
    | some sl =>
      rw [es] at g1
      cases sl with
      | own xs =>
        have own1 := SR1.own j xs es
        obtain ⟨p, vs, a1, a2, a3, a4, a5, a6⟩ := own1
        refine ⟨_, a1, w1, h1, σ, S1, SR1, GoodO.out (f := fun (z : Lb.D) h3 => match z with
          | Lb.D.int k => match Lb.ixN xs.length k with
            | some n => Out.nx (σ.set j (.own (xs.set n d))) h3
            | none => Out.bad
          | _ => Out.bad) e1 SR1 g1 fun d3 h3 w3 H3 v3 _ e3 ee3 S3 SR3 r3 g3 => ?_⟩
        cases d3 with
        | int k =>
          cases r3
          have g3 : GoodO X.K fa XR W w0 H0 w3 (match Lb.ixN xs.length k with
            | some n => Out.nx (σ.set j (.own (xs.set n d))) h3
            | none => Out.bad) En := g3
          cases ej : Lb.ixN xs.length k with
          | none => rw [ej] at g3; exact (show False from g3).elim
          | some q =>
            rw [ej] at g3
            obtain ⟨p', vs', b1, b2, b3, b4, b5, b6⟩ := SR3.own j xs es
            rw [a1] at b1; cases b1
            refine ⟨p, vs', k, q, rfl, rfl, b2, by rw [b3.length]; exact ej, ?_⟩
            exact g3 w3 _ τ (e3.chg b6) Le.refl (S3.chg b5 b4) (SR3.chg es a1 (RepL.set (ee3.R r1) q b3))
        | _ => exact (show False from g3).elim
      | _ => exact (show False from g1).elim
end
end Lb
end
section
set_option Elab.async false
set_option linter.all false
set_option maxRecDepth 100000
namespace Lb
open PySem PySem.Spec PyProof.Rows L2
section
variable {fa : Fa} {XR : XRel} {c : Cl} {W : WX} {w0 : Wd} {H0 : Hp} {X : Cx} {T : Tb} {n : Nat} {N : List Str} {sc : Scope} {sto : Sto}
theorem few_one {e : Expr} {env : PySem.Env} {cp : Pos} (hs : unstar e = true) : ((backTo cp (starEach [e] env)).all (fun x => !x.1) && (backToKw cp (keywordEach [] env)).all (fun x => x.1.isSome)
      && decide (([e] : List Expr).length + ([] : List Keyword).length + (if ([] : List Keyword).isEmpty then 0 else 1) < 30)) = true := by
  rw [star_ok hs]
  rfl
theorem snd_app (ok : Cok T fa XR c n N sc sto X) (tk : Takes X W) {j : Nat} {m : Ex} {eo e : Expr} {ap cp pos : Pos} (hf : frz m = true) (h : ckE T N sc sto m e = true) (h2 : ckVar N sc j eo = true) (hl : (ap.endLine == cp.line) = true) (hs : unstar e = true) :
    PS X (.Expr (.Call (.Attribute eo ("append" : Str) ap) [e] [] cp) pos) (tSt fa XR c W w0 H0 X (.app j m)) := by
  refine (ps_expr (pe_bm PySem.F.plainAttrs_list PySem.F.slot_list_append PySem.F.type_list_append mt_append (pe_slot ok h2) (pa_cons (toE (H0 := H0) hf (sndE m ok tk h).1) pa_nil (star_ok hs)) ?_ (few_one hs) hl (star_ok hs) rfl) rfl).imp fun En τ H q => ?_
  · refine attr_ok ?_
    unfold ckVar at h2
    split at h2
    · rfl
    · cases h2
  · obtain ⟨w, h, σ, e0, S, SR, g⟩ := q
    have g : GoodO X.K fa XR W w0 H0 w (match σ[j]? with
      | some (Sl.own xs) => (evE c σ m h).out σ fun x h1 => if xs.length < sz then Out.nx (σ.set j (.own (xs ++ [x]))) h1 else Out.bad
      | _ => Out.bad) En := g
    cases es : σ[j]? with
    | none => rw [es] at g; exact (show False from g).elim
    | some sl =>
      rw [es] at g
      cases sl with
      | own xs =>
        obtain ⟨p, vs, a1, a2, a3, a4, a5, a6⟩ := SR.own j xs es
        refine ⟨_, a1, .inl ⟨rfl, vs, .inl (.inl a2)⟩, w, h, σ, S, SR, GoodO.out (f := fun x h1 => if xs.length < sz then Out.nx (σ.set j (.own (xs ++ [x]))) h1 else Out.bad) e0 SR g fun d h1 w1 H1 v _ e1 ee S1 SR1 r1 g1 => ?_⟩
        by_cases hx : xs.length < sz
        · rw [if_pos hx] at g1
          obtain ⟨p', vs', b1, b2, b3, b4, b5, b6⟩ := SR1.own j xs es
          rw [a1] at b1; cases b1
          refine ⟨p, vs', v, rfl, rfl, b2, by rw [b3.length, sizeLine_eq]; exact hx, ?_⟩
          exact g1 w1 _ τ (e1.chg b6) Le.refl (S1.chg b5 b4) (SR1.chg es a1 (b3.append (.cons r1 .nil)))
        · rw [if_neg hx] at g1; exact (show False from g1).elim
      | _ => exact (show False from g).elim
theorem repL_ints {K : PySem.W.Frag} {F : Hp} {al : List Addr} : ∀ (ns : List Int), RepL K fa F al (ns.map V.int) (ns.map Lb.D.int)
  | [] => .nil
  | n :: r => .cons (.int n) (repL_ints r)
theorem snd_rem (ok : Cok T fa XR c n N sc sto X) (tk : Takes X W) {j : Nat} {m : Ex} {eo e : Expr} {ap cp pos : Pos} (hf : frz m = true) (h : ckE T N sc sto m e = true) (h2 : ckVar N sc j eo = true) (hl : (ap.endLine == cp.line) = true) (hs : unstar e = true) :
    PS X (.Expr (.Call (.Attribute eo ("remove" : Str) ap) [e] [] cp) pos) (tSt fa XR c W w0 H0 X (.rem j m)) := by
  refine (ps_expr (pe_remX ok.calm tk (pe_slot ok h2) (toE (H0 := H0) hf (sndE m ok tk h).1) ?_ (few_one hs) hl (star_ok hs) rfl) rfl).imp fun En τ H q => ?_
  · refine attr_ok ?_
    unfold ckVar at h2
    split at h2
    · rfl
    · cases h2
  · obtain ⟨w, h, σ, e0, S, SR, g⟩ := q
    have g : GoodO X.K fa XR W w0 H0 w (match σ[j]? with
      | some (Sl.own xs) => (evE c σ m h).out σ fun x h1 => match x, intsD xs with
        | Lb.D.int k, some ns => if k ∈ ns then Out.nx (σ.set j (.own ((ns.erase k).map Lb.D.int))) h1 else Out.bad
        | _, _ => Out.bad
      | _ => Out.bad) En := g
    cases es : σ[j]? with
    | none => rw [es] at g; exact (show False from g).elim
    | some sl =>
      rw [es] at g
      cases sl with
      | own xs =>
        obtain ⟨p, vs, a1, a2, a3, a4, a5, a6⟩ := SR.own j xs es
        refine ⟨_, a1, .inl ⟨rfl, vs, .inl (.inl a2)⟩, w, h, σ, S, SR, GoodO.out (f := fun (x : Lb.D) h1 => match x, intsD xs with
          | Lb.D.int k, some ns => if k ∈ ns then Out.nx (σ.set j (.own ((ns.erase k).map Lb.D.int))) h1 else Out.bad
          | _, _ => Out.bad) e0 SR g fun d h1 w1 H1 v _ e1 ee S1 SR1 r1 g1 => ?_⟩
        cases d with
        | int k =>
          cases r1
          cases ei : intsD xs with
          | none => simp only [ei] at g1; exact (show False from g1).elim
          | some ns =>
            simp only [ei] at g1
            by_cases hk : k ∈ ns
            · rw [if_pos hk] at g1
              obtain ⟨p', vs', b1, b2, b3, b4, b5, b6⟩ := SR1.own j xs es
              rw [a1] at b1; cases b1
              obtain rfl := intsD_rep b3 ei
              refine ⟨_, ns, k, rfl, rfl, b2, fun _ => ?_, fun z => (z hk).elim⟩
              exact g1 w1 _ τ (e1.chg b6) Le.refl (S1.chg b5 b4) (SR1.chg es a1 (repL_ints _))
            · rw [if_neg hk] at g1; exact (show False from g1).elim
        | _ => exact (show False from g1).elim
      | _ => exact (show False from g).elim
theorem cell_at {w : Wd} {h : Heap} {H : Hp} {a : Nat} {v : V} {xs : List D} (S : Sim X.K fa w h H) (r : w.R X.K fa v (.cell a)) (e : h[a]? = some (Cell.lst xs)) : ∃ p vs, v = .ref p ∧ w.al[a]? = some p ∧ H p = some (.lst vs) ∧ w.RL X.K fa vs xs := by
  cases r with
  | cell q =>
    rename_i p
    obtain ⟨p', ep, cr⟩ := S.cell a _ e
    rw [ep] at q; cases q
    unfold CellR at cr
    split at cr
    · rename_i xs' vs y1 y2
      cases y1
      exact ⟨p, vs, rfl, ep, y2, cr⟩
    · rename_i y1 _; cases y1
    · exact cr.elim
theorem snd_appC (ok : Cok T fa XR c n N sc sto X) (tk : Takes X W) {o m : Ex} {eo e : Expr} {ap cp pos : Pos} (ho : frz o = true) (h2 : ckE T N sc sto o eo = true) (hf : frz m = true) (h : ckE T N sc sto m e = true) (hl : (ap.endLine == cp.line) = true) (hs : unstar e = true) (hb : noCall0 eo = true) :
    PS X (.Expr (.Call (.Attribute eo ("append" : Str) ap) [e] [] cp) pos) (tSt fa XR c W w0 H0 X (.appC o m)) := by
  refine (ps_expr (pe_bm PySem.F.plainAttrs_list PySem.F.slot_list_append PySem.F.type_list_append mt_append (toE (H0 := H0) ho (sndE o ok tk h2).1) (pa_cons (toE (H0 := H0) hf (sndE m ok tk h).1) pa_nil (star_ok hs)) (attr_ok hb) (few_one hs) hl (star_ok hs) rfl) rfl).imp fun En τ H ⟨w, h, σ, e0, S, SR, g⟩ => ⟨w, h, σ, S, SR, GoodO.out (f := fun (y : Lb.D) (h1 : Heap) => match y with
    | Lb.D.cell a => match h1[a]? with
      | some (Cell.lst _) => (evE c σ m h1).out σ fun (x : Lb.D) (h2 : Heap) => match h2[a]? with
        | some (Cell.lst xs) => if xs.length < sz then Out.nx σ (h2.set a (Cell.lst (xs ++ [x]))) else Out.bad
        | _ => Out.bad
      | _ => Out.bad
    | _ => Out.bad) e0 SR g fun d h1 w1 H1 v _ e1 ee S1 SR1 r1 g1 => ?_⟩
  cases d with
  | cell a =>
    have g1 : GoodO X.K fa XR W w0 H0 w1 (match h1[a]? with
      | some (Cell.lst _) => (evE c σ m h1).out σ fun (x : Lb.D) (h2 : Heap) => match h2[a]? with
        | some (Cell.lst xs) => if xs.length < sz then Out.nx σ (h2.set a (Cell.lst (xs ++ [x]))) else Out.bad
        | _ => Out.bad
      | _ => Out.bad) En := g1
    cases ea : h1[a]? with
    | none => rw [ea] at g1; exact (show False from g1).elim
    | some cc =>
      rw [ea] at g1
      cases cc with
      | lst zs =>
        obtain ⟨p, vs, rfl, b1, b2, b3⟩ := cell_at S1 r1 ea
        refine ⟨.inl ⟨rfl, vs, .inl (.inl b2)⟩, w1, h1, σ, S1, SR1, GoodO.out (f := fun (x : Lb.D) (h2 : Heap) => match h2[a]? with
          | some (Cell.lst xs) => if xs.length < sz then Out.nx σ (h2.set a (Cell.lst (xs ++ [x]))) else Out.bad
          | _ => Out.bad) e1 SR1 g1 fun d2 h2 w2 H2 v2 _ e2 ee2 S2 SR2 r2 g2 => ?_⟩
        cases ea2 : h2[a]? with
        | none => rw [ea2] at g2; exact (show False from g2).elim
        | some cc =>
          rw [ea2] at g2
          cases cc with
          | lst xs =>
            have g2 : GoodO X.K fa XR W w0 H0 w2 (if xs.length < sz then Out.nx σ (h2.set a (Cell.lst (xs ++ [d2]))) else Out.bad) En := g2
            obtain ⟨p', vs', ep, c1, c2, c3⟩ := cell_at S2 (ee2.R r1) ea2
            cases ep
            by_cases hx : xs.length < sz
            · rw [if_pos hx] at g2
              refine ⟨p, vs', v2, rfl, rfl, c2, by rw [c3.length, sizeLine_eq]; exact hx, ?_⟩
              have hm := List.mem_of_getElem? c1
              exact g2 w2 _ τ (e2.cell hm) Le.refl (S2.setCell c1 (show CellR X.K fa w2 (.lst _) (some (.lst _)) from c3.append (.cons r2 .nil))) (SR2.cell hm)
            · rw [if_neg hx] at g2; exact (show False from g2).elim
          | dic _ => exact (show False from g2).elim
          | ins _ _ => exact (show False from g2).elim
      | dic _ => exact (show False from g1).elim
      | ins _ _ => exact (show False from g1).elim
  | _ => exact (show False from g1).elim
theorem snd_expr (ok : Cok T fa XR c n N sc sto X) (tk : Takes X W) {m : Ex} {e : Expr} {pos : Pos} (h : ckE T N sc sto m e = true) (hc : isComp e = false) : PS X (.Expr e pos) (tSt fa XR c W w0 H0 X (.expr m)) :=
  (ps_expr (toB (H0 := H0) (sndE m ok tk h).1) (swN hc)).imp fun En τ H ⟨w, h, σ, e0, S, SR, g⟩ => ⟨w, h, σ, S, SR, GoodO.out (f := fun _ h1 => Out.nx σ h1) e0 SR g fun d h1 w1 H1 v _ e1 ee S1 SR1 r1 g1 => g1 w1 H1 τ e1 Le.refl S1 SR1⟩
theorem snd_ret (ok : Cok T fa XR c n N sc sto X) (tk : Takes X W) {m : Ex} {e : Expr} {pos : Pos} (hf : frz m = true) (h : ckE T N sc sto m e = true) : PS X (.Return (some e) pos) (tSt fa XR c W w0 H0 X (.ret m)) :=
  (ps_ret (toE (H0 := H0) hf (sndE m ok tk h).1)).imp fun En τ H ⟨w, h, σ, e0, S, SR, g⟩ => ⟨w, h, σ, S, SR, GoodO.out (f := fun x h1 => Out.rt x h1) e0 SR g fun d h1 w1 H1 v _ e1 ee S1 SR1 r1 g1 => g1 w1 H1 v e1 Le.refl S1 r1⟩
theorem snd_retn {pos : Pos} : PS X (.Return none pos) (tSt fa XR c W w0 H0 X .retn) :=
  ps_retN.imp fun En τ H ⟨w, h, σ, e0, S, SR, g⟩ => g w H .non e0 Le.refl S .non
theorem snd_pass {pos : Pos} : PS X (.Pass pos) (tSt fa XR c W w0 H0 X .pass) :=
  ps_pass.imp fun En τ H ⟨w, h, σ, e0, S, SR, g⟩ => g w H τ e0 Le.refl S SR
theorem snd_doc {x : Str} {j : Nat} {p pos : Pos} : PS X (.Expr (.Constant (.str x) j p) pos) (tSt fa XR c W w0 H0 X .pass) :=
  ps_doc.imp fun En τ H ⟨w, h, σ, e0, S, SR, g⟩ => g w H τ e0 Le.refl S SR
theorem snd_cont {pos : Pos} : PS X (.Continue pos) (tSt fa XR c W w0 H0 X .cont) :=
  ps_continue.imp fun En τ H ⟨w, h, σ, e0, S, SR, g⟩ => g w H τ e0 Le.refl S SR
theorem snd_retown (ok : Cok T fa XR c n N sc sto X) {j : Nat} {e : Expr} {pos : Pos} (h2 : ckVar N sc j e = true) : PS X (.Return (some e) pos) (tSt fa XR c W w0 H0 X (.retown j)) :=
  (ps_ret (pe_slot ok h2)).imp fun En τ H ⟨w, h, σ, e0, S, SR, g⟩ => by
    have g : GoodO X.K fa XR W w0 H0 w (match σ[j]? with
      | some (Sl.own xs) => Out.rt (.lst xs) h
      | _ => Out.bad) En := g
    cases es : σ[j]? with
    | none => rw [es] at g; exact (show False from g).elim
    | some sl =>
      rw [es] at g
      cases sl with
      | own xs =>
        obtain ⟨p, vs, a1, a2, a3, a4, a5, a6⟩ := SR.own j xs es
        have hF : ∀ b u, w.F b = some u → (w.add p (.lst vs)).F b = some u := (Le.add (o := .lst vs) a4).F
        exact ⟨_, a1, g _ H _ (e0.sealO a2 a6 a4) (Le.add a4) (S.sealO a2 a4 a5) (show Wd.R _ _ _ _ _ from .lst (show upd w.F p _ p = _ from upd_same) (RepL.mono hF (fun _ _ z => z) a3))⟩
      | _ => exact (show False from g).elim
/-- a list of one's own becomes a datum: no statement of the text -/
theorem ghost_frz {j : Nat} {r : Ss} {En : Ends} {τ : St} {H : Hp} : tSs fa XR c W w0 H0 X (.cons (.frz j) r) En τ H → tSs fa XR c W w0 H0 X r En τ H := fun ⟨w, h, σ, e0, S, SR, g⟩ => by
  have g : GoodO X.K fa XR W w0 H0 w (match (match σ[j]? with
      | some (Sl.own xs) => Out.nx (σ.set j (.v (.lst xs))) h
      | _ => Out.bad) with
    | .nx σ1 h1 => evSs c r σ1 h1
    | o => o) En := g
  cases es : σ[j]? with
  | none => rw [es] at g; exact (show False from g).elim
  | some sl =>
    rw [es] at g
    cases sl with
    | own xs =>
      obtain ⟨p, vs, a1, a2, a3, a4, a5, a6⟩ := SR.own j xs es
      exact ⟨_, h, _, e0.sealO a2 a6 a4, S.sealO a2 a4 a5, SR.frz es a1 a3 a4, GoodO.le (o := evSs c r (σ.set j (.v (.lst xs))) h) g (Le.add a4)⟩
    | _ => exact (show False from g).elim
theorem ghost_cel {j : Nat} {r : Ss} {En : Ends} {τ : St} {H : Hp} : tSs fa XR c W w0 H0 X (.cons (.cel j) r) En τ H → tSs fa XR c W w0 H0 X r En τ H := fun ⟨w, h, σ, e0, S, SR, g⟩ => by
  have g : GoodO X.K fa XR W w0 H0 w (match (match σ[j]? with
      | some (Sl.own xs) => Out.nx (σ.set j (.v (.cell h.length))) (h ++ [Cell.lst xs])
      | _ => Out.bad) with
    | .nx σ1 h1 => evSs c r σ1 h1
    | o => o) En := g
  cases es : σ[j]? with
  | none => rw [es] at g; exact (show False from g).elim
  | some sl =>
    rw [es] at g
    cases sl with
    | own xs =>
      obtain ⟨p, vs, a1, a2, a3, a4, a5, a6⟩ := SR.own j xs es
      exact ⟨_, h ++ [Cell.lst xs], _, e0.newCell a6, S.newCell a2 a3 a4 a5, SR.cel S.len es a1, GoodO.le (o := evSs c r (σ.set j (.v (.cell h.length))) (h ++ [Cell.lst xs])) g Le.newCell⟩
    | _ => exact (show False from g).elim
theorem rd_seq {s : S} {r : Ss} {En : Ends} {τ : St} {H : Hp} : tSs fa XR c W w0 H0 X (.cons s r) En τ H → tSeq (tSt fa XR c W w0 H0 X s) (tSs fa XR c W w0 H0 X r) En τ H := fun ⟨w, h, σ, e0, S, SR, g⟩ => by
  refine ⟨w, h, σ, e0, S, SR, ?_⟩
  have g : GoodO X.K fa XR W w0 H0 w (match evS c s σ h with
    | .nx σ1 h1 => evSs c r σ1 h1
    | o => o) En := g
  cases e : evS c s σ h with
  | nx σ1 h1 => rw [e] at g; exact fun w' H' τ' a b S' SR' => ⟨w', h1, σ1, a, S', SR', GoodO.le (o := evSs c r σ1 h1) g b⟩
  | ct σ1 h1 => rw [e] at g; exact g
  | rt d h1 => rw [e] at g; exact g
  | ex k d σ1 h1 => rw [e] at g; exact g
  | bad => rw [e] at g; exact g
theorem rd_nil {En : Ends} {τ : St} {H : Hp} : tSs fa XR c W w0 H0 X .nil En τ H → tNext En τ H := fun ⟨w, h, σ, e0, S, SR, g⟩ => g w H τ e0 Le.refl S SR
theorem snd_if (ok : Cok T fa XR c n N sc sto X) (tk : Takes X W) {m : Ex} {a b : Ss} {e : Expr} {sa sb : List Stmt} {pos : Pos} (h : ckE T N sc sto m e = true) (ha : PSs X sa (tSs fa XR c W w0 H0 X a)) (hb : PSs X sb (tSs fa XR c W w0 H0 X b)) :
    PS X (.If e sa sb pos) (tSt fa XR c W w0 H0 X (.ite m a b)) :=
  (ps_if (sndE (H0 := H0) m ok tk h).2 ha hb).imp fun En τ H ⟨w, h, σ, e0, S, SR, g⟩ => ⟨w, h, σ, S, SR, GoodO.out (f := fun (k : Bool) h1 => match k with
    | true => evSs c a σ h1
    | false => evSs c b σ h1) e0 SR g fun d h1 w1 H1 v _ e1 ee S1 SR1 r1 g1 => by
      have r1 : v = d := r1
      subst r1
      cases v with
      | true => rw [if_pos rfl]; exact ⟨w1, h1, σ, e1, S1, SR1, g1⟩
      | false => rw [if_neg Bool.false_ne_true]; exact ⟨w1, h1, σ, e1, S1, SR1, g1⟩⟩
theorem GoodO.turn {w : Wd} {o : Out} {k : Fr → Heap → Out} {En : Ends} {Nx : St → Hp → Prop} {bk : St → Hp → Prop}
    (g : GoodO X.K fa XR W w0 H0 w (match o with
      | .nx σ2 h2 => k σ2 h2
      | .ct σ2 h2 => k σ2 h2
      | o => o) En) (hn : ∀ σ2 h2 w' H' τ', Ext w0 H0 w' H' → Le w w' → Sim X.K fa w' h2 H' → SRep X.K fa H0 w' H' σ2 τ' → GoodO X.K fa XR W w0 H0 w' (k σ2 h2) En → Nx τ' H') : GoodO X.K fa XR W w0 H0 w o { En with nx := Nx, ct := Nx, bk := bk } := by
  cases o with
  | nx σ2 h2 => exact fun w' H' τ' a b S SR => hn σ2 h2 w' H' τ' a b S SR (GoodO.le (o := k σ2 h2) g b)
  | ct σ2 h2 => exact fun w' H' τ' a b S SR => hn σ2 h2 w' H' τ' a b S SR (GoodO.le (o := k σ2 h2) g b)
  | rt d h2 => exact g
  | ex k d σ2 h2 => exact g
  | bad => exact g
theorem snd_for (ok : Cok T fa XR c n N sc sto X) (tk : Takes X W) (hp : PassesOwn (model X.prog X.w) X.A X.env X.xe) {tg : Tg} {it : Lb.It} {b : Ss} {t i : Expr} {sb : List Stmt} {pos : Pos} (h : ckI T N sc sto it i = true) (ht : ckTg N sto tg t = true) (hs : isSet i = false)
    (hb : PSs X sb (tSs fa XR c W w0 H0 X b)) : PS X (.For t i sb [] pos) (tSt fa XR c W w0 H0 X (.for_ tg it b)) := by
  refine (ps_for hp ok.calm (sndI (H0 := H0) it ok tk h) (snd_tg (H0 := H0) ok ht) hb (fold_ok hs X.env)).imp fun En τ H ⟨w, h, σ, e0, S, SR, g⟩ => ⟨w, h, σ, S, SR, GoodO.out (f := fun xs h1 => loopF tg (fun σ h => evSs c b σ h) xs σ h1) e0 SR g fun ds h1 w1 H1 J _ e1 ee S1 SR1 wk g1 => ?_⟩
  refine ⟨fun i m τ H => m = ds.length - i ∧ i ≤ ds.length ∧ ∃ w' h' σ', Ext w0 H0 w' H ∧ Le w1 w' ∧ Sim X.K fa w' h' H ∧ SRep X.K fa H0 w' H σ' τ ∧ GoodO X.K fa XR W w0 H0 w' (loopF tg (fun σ h => evSs c b σ h) (ds.drop i) σ' h') En,
    ⟨ds.length, by simp, Nat.zero_le _, w1, h1, σ, e1, Le.refl, S1, SR1, g1⟩, ?_⟩
  rintro i m τ H ⟨rfl, hi, w', h', σ', a1, a2, a3, a4, a5⟩
  by_cases hlt : i < ds.length
  · have ed : ds[i]? = some ds[i] := List.getElem?_eq_getElem hlt
    rw [List.drop_eq_getElem_cons hlt] at a5
    refine .inr ⟨wk.go w' h' H a3 a2 i hlt, fun τ' H' => ∃ w2 h2 σ2, Ext w0 H0 w2 H' ∧ Le w1 w2 ∧ Sim X.K fa w2 h2 H' ∧ SRep X.K fa H0 w2 H' σ2 τ' ∧ GoodO X.K fa XR W w0 H0 w2 (loopF tg (fun σ h => evSs c b σ h) (ds.drop (i + 1)) σ2 h2) En,
      fun τ' H' q => ⟨ds.length - (i + 1), by omega, rfl, hlt, q⟩, fun x H' y => ?_⟩
    obtain ⟨w2, e2, S2, r2⟩ := wk.yld w' h' H i x H' _ a3 a2 ed y
    have a5 : GoodO X.K fa XR W w0 H0 w' (match tg.set ds[i] σ' with
      | none => Out.bad
      | some σ1 => match evSs c b σ1 h' with
        | .nx σ2 h2 => loopF tg (fun σ h => evSs c b σ h) (ds.drop (i + 1)) σ2 h2
        | .ct σ2 h2 => loopF tg (fun σ h => evSs c b σ h) (ds.drop (i + 1)) σ2 h2
        | o => o) En := a5
    cases es : tg.set ds[i] σ' with
    | none => rw [es] at a5; exact (show False from a5).elim
    | some σ1 =>
      rw [es] at a5
      refine ⟨w2, h', σ', σ1, ds[i], S2, a4.ext e2, r2, es, fun τ' SR' _ => ⟨w2, h', σ1, a1.trans e2, S2, SR', ?_⟩⟩
      exact GoodO.turn (GoodO.le a5 e2.le) fun σ3 h3 w3 H3 τ3 b1 b2 b3 b4 b5 => ⟨w3, h3, σ3, b1, (a2.trans e2.le).trans b2, b3, b4, b5⟩
  · have e : i = ds.length := by omega
    subst e
    rw [List.drop_length] at a5
    exact .inl ⟨wk.stop w' h' H a3 a2, a5 w' H τ a1 Le.refl a3 a4⟩
theorem snd_whl (ok : Cok T fa XR c n N sc sto X) (tk : Takes X W) (hp : PassesOwn (model X.prog X.w) X.A X.env X.xe) {k : Nat} {m : Ex} {b : Ss} {e : Expr} {sb : List Stmt} {pos : Pos} (h : ckE T N sc sto m e = true) (hb : PSs X sb (tSs fa XR c W w0 H0 X b)) :
    PS X (.While e sb [] pos) (tSt fa XR c W w0 H0 X (.whl k m b)) := by
  refine (ps_while hp (sndE (H0 := H0) m ok tk h).2 hb).imp fun En τ H ⟨w, h, σ, e0, S, SR, g⟩ => ?_
  refine ⟨fun i τ H => ∃ w' h' σ', Ext w0 H0 w' H ∧ Sim X.K fa w' h' H ∧ SRep X.K fa H0 w' H σ' τ ∧ GoodO X.K fa XR W w0 H0 w' (loopW (fun σ h => evT c σ m h) (fun σ h => evSs c b σ h) i σ' h') En, ⟨k, w, h, σ, e0, S, SR, g⟩, ?_⟩
  rintro i τ H ⟨w', h', σ', a1, a2, a3, a4⟩
  cases i with
  | zero => exact (show False from a4).elim
  | succ i =>
    refine ⟨w', h', σ', a2, a3, GoodO.out (f := fun (k : Bool) h1 => match k with
      | false => Out.nx σ' h1
      | true => match evSs c b σ' h1 with
        | .nx σ2 h2 => loopW (fun σ h => evT c σ m h) (fun σ h => evSs c b σ h) i σ2 h2
        | .ct σ2 h2 => loopW (fun σ h => evT c σ m h) (fun σ h => evSs c b σ h) i σ2 h2
        | o => o) a1 a3 a4 fun d h1 w1 H1 v _ e1 ee S1 SR1 r1 g1 => ?_⟩
    have r1 : v = d := r1
    subst r1
    cases v with
    | false => rw [if_neg Bool.false_ne_true]; exact g1 w1 H1 τ e1 Le.refl S1 SR1
    | true =>
      rw [if_pos rfl]
      refine ⟨fun τ' H' => ∃ w2 h2 σ2, Ext w0 H0 w2 H' ∧ Sim X.K fa w2 h2 H' ∧ SRep X.K fa H0 w2 H' σ2 τ' ∧ GoodO X.K fa XR W w0 H0 w2 (loopW (fun σ h => evT c σ m h) (fun σ h => evSs c b σ h) i σ2 h2) En, fun τ' H' q => ⟨i, Nat.lt_succ_self i, q⟩, w1, h1, σ', e1, S1, SR1, ?_⟩
      exact GoodO.turn g1 fun σ3 h3 w3 H3 τ3 b1 b2 b3 b4 b5 => ⟨w3, h3, σ3, b1, b3, b4, b5⟩
end
end Lb
end
section
set_option Elab.async false
set_option linter.all false
set_option maxRecDepth 100000
namespace Lb
open PySem PySem.Spec PyProof.Rows L2
def ckSet (T : Tb) (N : List Str) (sc : Scope) (sto : Sto) (i : Nat) (m : Ex) (t e : Expr) : Bool := match t with
  | .Name y py => decide (N[i]? = some y) && sto y && setOk sc y py e
  | _ => false
def isFrz : S → Bool
  | .frz _ => true
  | .cel _ => true
  | _ => false
mutual
def ckS (T : Tb) (N : List Str) (sc : Scope) (sto : Sto) : S → Stmt → Bool
  | .asg tg m, st => match st with
    | .Assign [t] e _ => frz m && ckE T N sc sto m e && (match t with
      | .Name y py => (match tg with
        | .nm i => ckSet T N sc sto i m t e
        | _ => false)
      | .Tuple es kk py => ckTg N sto tg t && !isTupE e
      | _ => false)
    | _ => false
  | .own i m, st => match st with
    | .Assign [t] e _ => decide (form m = .new) && ckE T N sc sto m e && ckSet T N sc sto i m t e
    | _ => false
  | .frz _, _ => false
  | .cel _, _ => false
  | .setix o i m, st => match st with
    | .Assign [.Subscript eo ei _] e _ => frz m && ckE T N sc sto m e && frz o && ckE T N sc sto o eo && frz i && ckE T N sc sto i ei && !isSlice ei
    | _ => false
  | .setown j i m, st => match st with
    | .Assign [.Subscript eo ei _] e _ => frz m && ckE T N sc sto m e && ckVar N sc j eo && frz i && ckE T N sc sto i ei && !isSlice ei
    | _ => false
  | .app j m, st => match st with
    | .Expr (.Call (.Attribute eo nm ap) [e] [] cp) _ => frz m && ckE T N sc sto m e && ckVar N sc j eo && decide (nm = ("append" : Str)) && (ap.endLine == cp.line) && unstar e
    | _ => false
  | .appC o m, st => match st with
    | .Expr (.Call (.Attribute eo nm ap) [e] [] cp) _ => frz o && ckE T N sc sto o eo && frz m && ckE T N sc sto m e && decide (nm = ("append" : Str)) && (ap.endLine == cp.line) && unstar e && noCall0 eo
    | _ => false
  | .rem j m, st => match st with
    | .Expr (.Call (.Attribute eo nm ap) [e] [] cp) _ => frz m && ckE T N sc sto m e && ckVar N sc j eo && decide (nm = ("remove" : Str)) && (ap.endLine == cp.line) && unstar e
    | _ => false
  | .expr m, st => match st with
    | .Expr e _ => ckE T N sc sto m e && !isComp e
    | _ => false
  | .ret m, st => match st with
    | .Return (some e) _ => frz m && ckE T N sc sto m e
    | _ => false
  | .retown j, st => match st with
    | .Return (some e) _ => ckVar N sc j e
    | _ => false
  | .retn, st => match st with
    | .Return none _ => true
    | _ => false
  | .pass, st => match st with
    | .Pass _ => true
    | .Expr (.Constant (.str _) _ _) _ => true
    | _ => false
  | .cont, st => match st with
    | .Continue _ => true
    | _ => false
  | .ite m a b, st => match st with
    | .If e sa sb _ => ckE T N sc sto m e && ckSs T N sc sto a sa && ckSs T N sc sto b sb
    | _ => false
  | .for_ tg it b, st => match st with
    | .For t i sb [] _ => ckI T N sc sto it i && ckTg N sto tg t && !isSet i && ckSs T N sc sto b sb
    | _ => false
  | .whl k m b, st => match st with
    | .While e sb [] _ => ckE T N sc sto m e && ckSs T N sc sto b sb
    | _ => false
  | .rais _ _, _ => false
  | .tryx _ _ _ _, _ => false
def ckSs (T : Tb) (N : List Str) (sc : Scope) (sto : Sto) : Ss → List Stmt → Bool
  | .nil, l => l.isEmpty
  | .cons s r, l => match isFrz s with
    | true => ckSs T N sc sto r l
    | false => (match l with
      | st :: l => ckS T N sc sto s st && ckSs T N sc sto r l
      | [] => false)
end
section
variable {fa : Fa} {XR : XRel} {c : Cl} {W : WX} {w0 : Wd} {H0 : Hp} {X : Cx} {T : Tb} {n : Nat} {N : List Str} {sc : Scope} {sto : Sto}
theorem ckSet_of {i : Nat} {m : Ex} {t e : Expr} (h : ckSet T N sc sto i m t e = true) : ∃ y py, t = .Name y py ∧ N[i]? = some y ∧ sto y = true ∧ setOk sc y py e = true := by
  unfold ckSet at h
  split at h
  · simp only [Bool.and_eq_true, decide_eq_true_eq] at h
    exact ⟨_, _, rfl, h.1.1, h.1.2, h.2⟩
  · cases h
theorem isFrz_of {s : S} (h : isFrz s = true) : (∃ j, s = .frz j) ∨ ∃ j, s = .cel j := by
  cases s <;> first | exact .inl ⟨_, rfl⟩ | exact .inr ⟨_, rfl⟩ | cases h
theorem cons_cut {s : S} {r : Ss} {st : Stmt} {l : List Stmt} (h1 : PS X st (tSt fa XR c W w0 H0 X s)) (h2 : PSs X l (tSs fa XR c W w0 H0 X r)) : PSs X (st :: l) (tSs fa XR c W w0 H0 X (.cons s r)) := (pss_cons h1 h2).imp fun En τ H q => rd_seq q
mutual
theorem sndS (ok : Cok T fa XR c n N sc sto X) (tk : Takes X W) (hp : PassesOwn (model X.prog X.w) X.A X.env X.xe) : ∀ (s : S) {st : Stmt}, ckS T N sc sto s st = true → PS X st (tSt fa XR c W w0 H0 X s)
  | .asg tg m, st, h => by
    have h : (match (generalizing := false) st with
      | .Assign [t] e _ => frz m && ckE T N sc sto m e && (match (generalizing := false) t with
        | .Name y py => (match (generalizing := false) tg with
          | .nm i => ckSet T N sc sto i m t e
          | _ => false)
        | .Tuple es kk py => ckTg N sto tg t && !isTupE e
        | _ => false)
      | _ => false) = true := h
    split at h
    · rename_i t e pos
      simp only [Bool.and_eq_true] at h
      obtain ⟨⟨h1, h2⟩, h3⟩ := h
      split at h3
      · split at h3
        · obtain ⟨y, py, ey, k1, k2, k3⟩ := ckSet_of h3
          cases ey
          exact snd_set ok tk h1 h2 k1 k2 k3
        · cases h3
      · rw [Bool.and_eq_true, Bool.not_eq_true'] at h3
        exact snd_tup_set ok tk h1 h2 h3.1 h3.2
      · cases h3
    · cases h
  | .own i m, st, h => by
    have h : (match (generalizing := false) st with
      | .Assign [t] e _ => decide (form m = .new) && ckE T N sc sto m e && ckSet T N sc sto i m t e
      | _ => false) = true := h
    split at h
    · simp only [Bool.and_eq_true, decide_eq_true_eq] at h
      obtain ⟨⟨h1, h2⟩, h3⟩ := h
      obtain ⟨y, py, ey, k1, k2, k3⟩ := ckSet_of h3
      cases ey
      exact snd_own ok tk h1 h2 k1 k2 k3
    · cases h
  | .frz _, st, h => by cases h
  | .cel _, st, h => by cases h
  | .setix o i m, st, h => by
    have h : (match (generalizing := false) st with
      | .Assign [.Subscript eo ei _] e _ => frz m && ckE T N sc sto m e && frz o && ckE T N sc sto o eo && frz i && ckE T N sc sto i ei && !isSlice ei
      | _ => false) = true := h
    split at h
    · simp only [Bool.and_eq_true, Bool.not_eq_true'] at h
      obtain ⟨⟨⟨⟨⟨⟨h1, h2⟩, h3⟩, h4⟩, h5⟩, h6⟩, h7⟩ := h
      exact snd_setix ok tk h1 h2 h3 h4 h5 h6 h7
    · cases h
  | .setown j i m, st, h => by
    have h : (match (generalizing := false) st with
      | .Assign [.Subscript eo ei _] e _ => frz m && ckE T N sc sto m e && ckVar N sc j eo && frz i && ckE T N sc sto i ei && !isSlice ei
      | _ => false) = true := h
    split at h
    · simp only [Bool.and_eq_true, Bool.not_eq_true'] at h
      obtain ⟨⟨⟨⟨⟨h1, h2⟩, h3⟩, h4⟩, h5⟩, h6⟩ := h
      exact snd_setown ok tk h1 h2 h3 h4 h5 h6
    · cases h
  | .app j m, st, h => by
    have h : (match (generalizing := false) st with
      | .Expr (.Call (.Attribute eo nm ap) [e] [] cp) _ => frz m && ckE T N sc sto m e && ckVar N sc j eo && decide (nm = ("append" : Str)) && (ap.endLine == cp.line) && unstar e
      | _ => false) = true := h
    split at h
    · simp only [Bool.and_eq_true, decide_eq_true_eq] at h
      obtain ⟨⟨⟨⟨⟨h1, h2⟩, h3⟩, rfl⟩, h5⟩, h6⟩ := h
      exact snd_app ok tk h1 h2 h3 h5 h6
    · cases h
  | .appC o m, st, h => by
    have h : (match (generalizing := false) st with
      | .Expr (.Call (.Attribute eo nm ap) [e] [] cp) _ => frz o && ckE T N sc sto o eo && frz m && ckE T N sc sto m e && decide (nm = ("append" : Str)) && (ap.endLine == cp.line) && unstar e && noCall0 eo
      | _ => false) = true := h
    split at h
    · simp only [Bool.and_eq_true, decide_eq_true_eq] at h
      obtain ⟨⟨⟨⟨⟨⟨⟨h1, h2⟩, h3⟩, h4⟩, rfl⟩, h5⟩, h6⟩, h7⟩ := h
      exact snd_appC ok tk h1 h2 h3 h4 h5 h6 h7
    · cases h
  | .rem j m, st, h => by
    have h : (match (generalizing := false) st with
      | .Expr (.Call (.Attribute eo nm ap) [e] [] cp) _ => frz m && ckE T N sc sto m e && ckVar N sc j eo && decide (nm = ("remove" : Str)) && (ap.endLine == cp.line) && unstar e
      | _ => false) = true := h
    split at h
    · simp only [Bool.and_eq_true, decide_eq_true_eq] at h
      obtain ⟨⟨⟨⟨⟨h1, h2⟩, h3⟩, rfl⟩, h5⟩, h6⟩ := h
      exact snd_rem ok tk h1 h2 h3 h5 h6
    · cases h
  | .expr m, st, h => by
    have h : (match (generalizing := false) st with
      | .Expr e _ => ckE T N sc sto m e && !isComp e
      | _ => false) = true := h
    split at h
    · rw [Bool.and_eq_true, Bool.not_eq_true'] at h
      exact snd_expr ok tk h.1 h.2
    · cases h
  | .ret m, st, h => by
    have h : (match (generalizing := false) st with
      | .Return (some e) _ => frz m && ckE T N sc sto m e
      | _ => false) = true := h
    split at h
    · rw [Bool.and_eq_true] at h
      exact snd_ret ok tk h.1 h.2
    · cases h
  | .retown j, st, h => by
    have h : (match (generalizing := false) st with
      | .Return (some e) _ => ckVar N sc j e
      | _ => false) = true := h
    split at h
    · exact snd_retown ok h
    · cases h
  | .retn, st, h => by
    have h : (match (generalizing := false) st with
      | .Return none _ => true
      | _ => false) = true := h
    split at h
    · exact snd_retn
    · cases h
  | .pass, st, h => by
    have h : (match (generalizing := false) st with
      | .Pass _ => true
      | .Expr (.Constant (.str _) _ _) _ => true
      | _ => false) = true := h
    split at h
    · exact snd_pass
    · exact snd_doc
    · cases h
  | .cont, st, h => by
    have h : (match (generalizing := false) st with
      | .Continue _ => true
      | _ => false) = true := h
    split at h
    · exact snd_cont
    · cases h
  | .ite m a b, st, h => by
    have h : (match (generalizing := false) st with
      | .If e sa sb _ => ckE T N sc sto m e && ckSs T N sc sto a sa && ckSs T N sc sto b sb
      | _ => false) = true := h
    split at h
    · simp only [Bool.and_eq_true] at h
      exact snd_if ok tk h.1.1 (sndSs ok tk hp a h.1.2) (sndSs ok tk hp b h.2)
    · cases h
  | .for_ tg it b, st, h => by
    have h : (match (generalizing := false) st with
      | .For t i sb [] _ => ckI T N sc sto it i && ckTg N sto tg t && !isSet i && ckSs T N sc sto b sb
      | _ => false) = true := h
    split at h
    · simp only [Bool.and_eq_true, Bool.not_eq_true'] at h
      exact snd_for ok tk hp h.1.1.1 h.1.1.2 h.1.2 (sndSs ok tk hp b h.2)
    · cases h
  | .whl k m b, st, h => by
    have h : (match (generalizing := false) st with
      | .While e sb [] _ => ckE T N sc sto m e && ckSs T N sc sto b sb
      | _ => false) = true := h
    split at h
    · rw [Bool.and_eq_true] at h
      exact snd_whl ok tk hp h.1 (sndSs ok tk hp b h.2)
    · cases h
  | .rais _ _, st, h => by cases h
  | .tryx _ _ _ _, st, h => by cases h
theorem sndSs (ok : Cok T fa XR c n N sc sto X) (tk : Takes X W) (hp : PassesOwn (model X.prog X.w) X.A X.env X.xe) : ∀ (s : Ss) {l : List Stmt}, ckSs T N sc sto s l = true → PSs X l (tSs fa XR c W w0 H0 X s)
  | .nil, l, h => by
    cases l with
    | nil => exact pss_nil.imp fun En τ H q => rd_nil q
    | cons => cases h
  | .cons s r, l, h => by
    have h : (match (generalizing := false) isFrz s with
      | true => ckSs T N sc sto r l
      | false => (match (generalizing := false) l with
        | st :: l => ckS T N sc sto s st && ckSs T N sc sto r l
        | [] => false)) = true := h
    split at h
    · rename_i e
      rcases isFrz_of e with ⟨j, rfl⟩ | ⟨j, rfl⟩
      · exact (sndSs ok tk hp r h).imp fun En τ H q => ghost_frz q
      · exact (sndSs ok tk hp r h).imp fun En τ H q => ghost_cel q
    · cases l with
      | nil => cases h
      | cons st l =>
        have h : (ckS T N sc sto s st && ckSs T N sc sto r l) = true := h
        rw [Bool.and_eq_true] at h
        exact cons_cut (sndS ok tk hp s h.1) (sndSs ok tk hp r h.2)
end
end
end Lb
end
section
set_option Elab.async false
set_option linter.all false
set_option maxRecDepth 100000
namespace Lb
open PySem PySem.Spec PyProof.Rows L2
/-- the look at a def: its scope, its body -/
def scopeOk (N ps : List Str) (sc : Scope) : Bool := (match sc.kind with
  | .function => true
  | _ => false) && !sc.isCoroutine && !sc.isGenerator && decide N.Nodup && decide (N.take ps.length = ps) && (ps.all fun x => stoS sc x) && sc.names.all fun y => match y.2 with
  | .free => false
  | _ => true
theorem scope_of {N ps : List Str} {sc : Scope} (h : scopeOk N ps sc = true) : FnScope N ps sc := by
  unfold scopeOk at h
  simp only [Bool.and_eq_true, Bool.not_eq_true', decide_eq_true_eq] at h
  obtain ⟨⟨⟨⟨⟨⟨h1, h2⟩, h3⟩, h4⟩, h5⟩, h6⟩, h7⟩ := h
  refine ⟨?_, h2, h3, h4, h5, fun x hx => ?_, fun y hy e => ?_⟩
  · split at h1
    · assumption
    · cases h1
  · have q := List.all_eq_true.mp h6 x hx
    unfold stoS at q
    split at q
    · exact .inl (by assumption)
    · exact .inr (by assumption)
    · cases q
  · have q := List.all_eq_true.mp h7 y hy
    rw [e] at q
    cases q
def ckDef (T : Tb) (N ps : List Str) (sc : Scope) (body : List Stmt) (fd : Fd) : Bool := scopeOk N ps sc && decide (fd.ps = ps.length) && decide (fd.n = N.length) && ckSs T N sc (stoS sc) fd.body body
/-- what the walk takes of the world -/
structure Wok (P : Program) (w : World) (K : PySem.W.Frag) (mg : Str → Option Value) (T : Tb) (fa : Fa) (En : Lb.Env) (pso : Nat → List Str) : Prop where
  fns : ∀ f x, T.fns.lookup f = some x → ∃ a fd ps N nm qual params body scope F, (ps = pso f ∧ ∀ (s : Shared) (us : List Value), us.length = ps.length → BindsTo s fd ⟨us, []⟩ (ps.zip us)) ∧ mg x = some (.ref a) ∧ FunD K nm qual params body scope [] [] a fd ∧ Binds K fd ps [] ∧ En f = some F ∧ ckDef T N ps scope body F = true
  kons : ∀ x d, (x, d) ∈ T.kons → ∃ v u, mg (toS x) = some u ∧ RelV v u ∧ ∀ F al, Rep K fa F al v d
  free : ∀ x ∈ bltNames, mg x = none
theorem sp_len {K : PySem.W.Frag} {fa : Fa} {XR : XRel} {En : Lb.Env} {n f : Nat} {F : Fd} {vs : List V} {H : Hp} {Q : VK} {E : XK} (e : En f = some F) (h : spF K fa XR (callN En n) f vs H Q E) : vs.length = F.ps := by
  obtain ⟨w, hh, ds, S, r, g⟩ := h
  cases n with
  | zero => exact (show False from g).elim
  | succ n =>
    have e2 : callN En (n + 1) f ds hh = F.run (callN En n) ds hh := by
      show (match En f with
        | some fd => fd.run (callN En n) ds hh
        | none => .bad) = _
      rw [e]
    rw [e2] at g
    by_cases c : ds.length = F.ps
    · rw [r.length, c]
    · have e3 : F.run (callN En n) ds hh = .bad := by
        unfold Fd.run
        rw [if_neg c]
      rw [e3] at g
      exact (show False from g).elim
theorem start_rep {K : PySem.W.Frag} {fa : Fa} {w : Wd} {H : Hp} {N : List Str} {k m : Nat} {vs : List V} {ds : List D} (r : w.RL K fa vs ds) (hk : ds.length = k) (hm : m = N.length) : SRep K fa H w H (ds.map Sl.v ++ List.replicate (m - k) .no) (L2.start N vs) := by
  subst hk hm
  have rl := r.length
  have look : ∀ (i : Nat) s, (ds.map Sl.v ++ List.replicate (N.length - ds.length) Sl.no)[i]? = some s → (∃ d, ds[i]? = some d ∧ s = .v d) ∨ s = .no := fun i s h => by
    by_cases c : i < (ds.map Sl.v).length
    · rw [List.getElem?_append_left c, List.getElem?_map] at h
      obtain ⟨d, h1, h2⟩ := Option.map_eq_some_iff.mp h
      exact .inl ⟨d, h1, h2.symm⟩
    · rw [List.getElem?_append_right (by omega)] at h
      exact .inr (List.eq_of_mem_replicate (List.mem_of_getElem? h))
  refine ⟨?_, fun i d h => ?_, fun i xs h => ?_, fun i j xs ys p h1 h2 h3 h4 => ?_⟩
  · unfold L2.start
    simp [rl]
  · rcases look i _ h with ⟨d', h1, h2⟩ | h2
    · cases h2
      obtain ⟨v, e1, e2⟩ := r.get h1
      refine ⟨v, ?_, e2⟩
      unfold L2.start
      have lt := (List.getElem?_eq_some_iff.mp e1).1
      rw [List.getElem?_append_left (by simpa using lt), List.getElem?_map, e1]
      rfl
    · cases h2
  · rcases look i _ h with ⟨d', h1, h2⟩ | h2 <;> cases h2
  · rcases look i _ h1 with ⟨d', _, h2⟩ | h2 <;> cases h2
section
variable {P : Program} {w : World} {K : PySem.W.Frag} {mg : Str → Option Value} {T : Tb} {fa : Fa} {XR : XRel} {En : Lb.Env} {pso : Nat → List Str}
theorem body_good {F : Fd} {c : Cl} {ds : List D} {h : Heap} {H : Hp} {w0 : Wd} {Q : VK} {E : XK} (hl : ds.length = F.ps) (g : Good K fa (fun w' H' v d => w'.R K fa v d) XR (fun cls dx _ H' => E cls dx H') [] w0 H (F.run c ds h) Q) :
    GoodO K fa XR (fun cls dx _ H' => E cls dx H') w0 H w0 (evSs c F.body (ds.map .v ++ List.replicate (F.n - F.ps) .no) h) { nx := fun _ H' => Q .non H', rt := Q } := by
  unfold Fd.run at g
  rw [if_pos hl] at g
  cases e : evSs c F.body (ds.map .v ++ List.replicate (F.n - F.ps) .no) h with
  | nx σ h1 => rw [e] at g; exact fun w' H' τ' a b S SR => g w' H' .non a S .non
  | ct σ h1 => rw [e] at g; exact (show False from g).elim
  | rt d h1 => rw [e] at g; exact fun w' H' v a b S r => g w' H' v a S r
  | ex k d σ h1 => rw [e] at g; exact fun w' H' τ' cls dx a b S SR q => g w' H' cls dx a S q
  | bad => rw [e] at g; exact (show False from g).elim
theorem fn_zero {base : PySem.Heap} {f : Nat} {F : Fd} {a : Addr} {fd : FuncData} {ps : List Str} : FnOk P w K mg base (L2.CX P w) 0 a fd ps (spF K fa XR (callN En 0) f) :=
  ⟨fun vs H Q E ⟨_, _, _, _, _, g⟩ => (show False from g).elim, fun A outer s H args us vs Q E hr he hb hv ⟨_, _, _, _, _, g⟩ => (show False from g).elim⟩
theorem gok_all (wk : Wok P w K mg T fa En pso) : ∀ (n : Nat) (f : Nat) (x : Str), T.fns.lookup f = some x → ∃ a fd ps, (ps = pso f ∧ ∀ (s : Shared) (us : List Value), us.length = ps.length → BindsTo s fd ⟨us, []⟩ (ps.zip us)) ∧ mg x = some (.ref a) ∧ PySem.W.keepIn K (.ref a) = true ∧ Binds K fd ps [] ∧ ∀ base, FnOk P w K mg base (L2.CX P w) n a fd ps (spF K fa XR (callN En n) f)
  | 0, f, x, e => by
    obtain ⟨a, fd, ps, N, nm, qual, params, body, scope, F, hb, h1, h2, h3, h4, h5⟩ := wk.fns f x e
    exact ⟨a, fd, ps, hb, h1, h2.kp, h3, fun base => fn_zero (F := F)⟩
  | n + 1, f, x, e => by
    obtain ⟨a, fd, ps, N, nm, qual, params, body, scope, F, hb, h1, h2, h3, h4, h5⟩ := wk.fns f x e
    refine ⟨a, fd, ps, hb, h1, h2.kp, h3, fun base => ?_⟩
    unfold ckDef at h5
    simp only [Bool.and_eq_true, decide_eq_true_eq] at h5
    obtain ⟨⟨⟨k1, k2⟩, k3⟩, k4⟩ := h5
    have S := scope_of k1
    refine h2.ok S (fun vs H Q E q => (sp_len h4 q).trans k2) fun cdv A outer s H vs Q E hr sp => ?_
    have hl0 := sp_len h4 sp
    obtain ⟨w0, hh, ds, S0, r, g⟩ := sp
    have e2 : callN En (n + 1) f ds hh = F.run (callN En n) ds hh := by
      show (match En f with
        | some fd => fd.run (callN En n) ds hh
        | none => .bad) = _
      rw [h4]
    rw [e2] at g
    have hl : ds.length = F.ps := by rw [← r.length]; exact hl0
    let X := cxOf (L2.CX P w) P w K mg base N qual scope a cdv A outer s H E
    have tk : Takes X (fun cls d _ H => E cls d H) := takes_of (X := X) rfl rfl rfl rfl
    have hp : PassesOwn (model X.prog X.w) X.A X.env X.xe := passes_of (X := X) rfl
    have ok : Cok T fa XR (callN En n) n N scope (stoS scope) X := {
      g := ⟨fun f x e => by
        obtain ⟨a, fd, ps, _, q1, q2, q3, q4⟩ := gok_all wk n f x e
        exact ⟨a, fd, ps, q1, q2, q3, q4 base⟩, wk.kons, wk.free⟩
      N := rfl
      nd := S.nd
      sc := rfl
      calm := rfl
      room := hr
      sto := fun x hx => by
        refine ⟨?_, .inl rfl⟩
        unfold stoS at hx
        split at hx
        · exact .inl (by assumption)
        · exact .inr (by assumption)
        · cases hx }
    exact ⟨tSs fa XR (callN En n) (fun cls d _ H => E cls d H) w0 H X F.body, sndSs ok tk hp F.body k4, w0, hh, _, Ext.refl, S0, start_rep r hl k3, body_good hl g⟩
end
end Lb
end
section
set_option Elab.async false
set_option linter.all false
set_option maxRecDepth 100000
namespace Lb
open PySem PySem.Spec PyProof.Rows L2
/-- a def of the text, and its datum -/
structure Ent where
  f : Nat
  x : Str
  st : Stmt
  name : Str
  N : List Str
  ps : List Str
  F : Fd
def Ent.d (e : Ent) : He.DefD := ⟨(e.x, none), e.name, e.name, defArgs e.st, defBody e.st, defScope e.st, [], []⟩
inductive Kon where
  | int (i : Int) | str (x : Tx)
def Kon.dat : Kon → D
  | .int i => .int i
  | .str x => .str x
def Kon.fa (x : Tx) : Kon → He.Fa
  | .int i => .int (toS x) i
  | .str y => .str (toS x) (toS y)
structure Law where
  ents : List Ent
  kons : List (Tx × Kon)
def Law.tb (L : Law) : Tb := ⟨L.ents.map fun e => (e.f, e.x), L.kons.map fun p => (p.1, p.2.dat)⟩
def Law.env (L : Law) : Lb.Env := fun f => (L.ents.find? fun e => e.f == f).map (·.F)
def Law.fn (L : Law) : List He.DefD := L.ents.map Ent.d
def Law.fa (L : Law) : List He.Fa := (L.ents.map fun e => He.Fa.glo e.x) ++ (L.kons.map fun p => p.2.fa p.1) ++ bltNames.map He.Fa.free
def Law.ck (L : Law) : Bool := L.ents.all fun e => ckDef L.tb e.N e.ps (defScope e.st) (defBody e.st) e.F
def BindOk (e : Ent) : Prop := ∀ (kV doc pm : Value) (an : Option Addr) (cdv ct : Value) (us : List Value), us.length = e.ps.length → bindArgs (PySem.W.fnOf e.name e.name (defArgs e.st) (defBody e.st) (defScope e.st) .none kV doc pm an cdv ct) ⟨us, []⟩ = pure (e.ps.zip us)
def Law.pso (L : Law) : Nat → List Str := fun f => ((L.ents.find? fun e => e.f == f).map (·.ps)).getD []
def AllB : List Ent → Prop
  | [] => True
  | e :: r => BindOk e ∧ AllB r
theorem AllB.at : ∀ {l : List Ent}, AllB l → ∀ e ∈ l, BindOk e
  | e :: r, h, x, m => by
    rcases List.mem_cons.mp m with q | q
    · rw [q]; exact h.1
    · exact AllB.at h.2 x q
theorem find_first {f : Nat} {x : Str} : ∀ {l : List Ent}, (l.map fun e => (e.f, e.x)).lookup f = some x → ∃ e, e ∈ l ∧ e.x = x ∧ l.find? (fun e => e.f == f) = some e
  | e :: r, h => by
    rw [List.map_cons, List.lookup_cons] at h
    by_cases c : (f == e.f) = true
    · rw [c] at h
      cases h
      refine ⟨e, List.mem_cons_self, rfl, ?_⟩
      rw [List.find?_cons]
      have c2 : (e.f == f) = true := by
        rw [beq_iff_eq] at c ⊢
        exact c.symm
      rw [c2]
    · have c1 : (f == e.f) = false := by simpa using c
      rw [c1] at h
      obtain ⟨e', m, ex, fd⟩ := find_first h
      refine ⟨e', List.mem_cons_of_mem _ m, ex, ?_⟩
      have c2 : (e.f == f) = false := by
        rw [beq_eq_false_iff_ne] at c1 ⊢
        exact fun z => c1 z.symm
      rw [List.find?_cons, c2]
      exact fd
theorem says_fact {fa : List He.Fa} {fn : List He.DefD} {K : PySem.W.Frag} (c : He.SaysD fa fn K) {f : He.Fa} (h : f ∈ fa) : f.ok K = true := by
  obtain ⟨i, hi, e⟩ := List.mem_iff_getElem.mp h
  exact c.fact i (by rw [List.getElem?_eq_getElem hi, e])
theorem says_def {fa : List He.Fa} {fn : List He.DefD} {K : PySem.W.Frag} (c : He.SaysD fa fn K) {d : He.DefD} (h : d ∈ fn) : ∃ fd, FunD K d.name d.qual d.params d.body d.scope (d.dvs K) (d.kws K) (He.fAd K d.at_) fd := by
  obtain ⟨i, hi, e⟩ := List.mem_iff_getElem.mp h
  exact c.def_ i (by rw [List.getElem?_eq_getElem hi, e])
theorem wok_of {P : Program} {w : World} {K : PySem.W.Frag} {h : PySem.Heap} {mg : Str → Option Value} {L : Law} {fa : Fa} (X : K.In h) (G : h.Ns mainGlobals mg) (c : He.SaysD L.fa L.fn K) (ck : L.ck = true) (hB : AllB L.ents) : Wok P w K mg L.tb fa L.env L.pso where
  fns := fun f x lk => by
    obtain ⟨e, m, rfl, fd⟩ := find_first lk
    obtain ⟨g, F⟩ := says_def c (d := e.d) (List.mem_map.mpr ⟨e, m, rfl⟩)
    have F : FunD K e.name e.name (defArgs e.st) (defBody e.st) (defScope e.st) [] [] (He.fAd K (e.x, none)) g := F
    have gl := He.glo_ok X G (says_fact c (f := .glo e.x) (List.mem_append_left _ (List.mem_append_left _ (List.mem_map.mpr ⟨e, m, rfl⟩))))
    exact ⟨_, g, e.ps, e.N, e.name, e.name, defArgs e.st, defBody e.st, defScope e.st, e.F, ⟨by show _ = ((L.ents.find? _).map _).getD _; rw [fd]; rfl, F.bindsA (hB.at e m)⟩, gl, F, F.bindsN (hB.at e m), by show (L.ents.find? _).map _ = _; rw [fd]; rfl, List.all_eq_true.mp ck e m⟩
  kons := fun x d hm => by
    obtain ⟨⟨y, k⟩, m, e⟩ := List.mem_map.mp hm
    cases e
    have f := says_fact c (f := k.fa y) (List.mem_append_left _ (List.mem_append_right _ (List.mem_map.mpr ⟨(y, k), m, rfl⟩)))
    cases k with
    | int i =>
      obtain ⟨t, e⟩ := He.int_ok X G f
      exact ⟨.int i, _, e, ⟨t, rfl⟩, fun _ _ => .int i⟩
    | str z =>
      obtain ⟨t, e⟩ := He.str_ok X G f
      exact ⟨.str (toS z), _, e, ⟨t, rfl⟩, fun _ _ => .str z⟩
  free := fun x hx => He.free_ok X G (says_fact c (f := .free x) (List.mem_append_right _ (List.mem_map.mpr ⟨x, hx, rfl⟩)))
/-- the law's def, called with the script -/
theorem law_facts {P : Program} {w : World} {K : PySem.W.Frag} {h : PySem.Heap} {mg : Str → Option Value} {a : Addr} {L : Law} {n f : Nat} {p : Str} (X : K.In h) (G : h.Ns mainGlobals mg) (hmg : mg ("law" : Str) = some (.ref a)) (c : He.SaysD L.fa L.fn K) (ck : L.ck = true) (hB : AllB L.ents)
    (he : ∃ e ∈ L.ents, e.f = f ∧ e.x = ("law" : Str) ∧ e.ps = [p] ∧ L.ents.find? (fun e => e.f == f) = some e) (good : ∀ ns : List Int, ns.length ≤ 63 → ∃ h', callN L.env n f [.scr ns] [] = .ok (.bl true) h') :
    ∃ (fd : FuncData) (sp : Sp), (∀ (s : Shared) (u : Value), BindsTo s fd ⟨[u], []⟩ [(p, u)]) ∧
        (∀ (H : Hp) (a : Addr) (ns : List Int), ns.length ≤ 63 → Only H → SqL K H a (ns.map V.int) → sp [.ref a] H (fun v _ => v = .bl true) fun _ _ _ => False) ∧
        ∀ base : PySem.Heap, K.In base → base.Ns mainGlobals mg → FnOk P w K mg base (L2.CX P w) n a fd [p] sp := by
  obtain ⟨e, m, rfl, ex, eps, efd⟩ := he
  have wk : Wok P w K mg L.tb (fun _ => none) L.env L.pso := wok_of X G c ck hB
  have lk : L.tb.fns.lookup e.f = some ("law" : Str) := by
    show (L.ents.map fun e => (e.f, e.x)).lookup e.f = _
    have key : ∀ {l : List Ent}, l.find? (fun z => z.f == e.f) = some e → (l.map fun e => (e.f, e.x)).lookup e.f = some e.x := by
      intro l
      induction l with
      | nil => intro h; cases h
      | cons z r ih =>
        intro h
        rw [List.find?_cons] at h
        rw [List.map_cons, List.lookup_cons]
        by_cases q : (z.f == e.f) = true
        · rw [q] at h
          cases h
          simp
        · have q1 : (z.f == e.f) = false := by simpa using q
          rw [q1] at h
          have q2 : (e.f == z.f) = false := by
            rw [beq_eq_false_iff_ne] at q1 ⊢
            exact fun y => q1 y.symm
          rw [q2]
          exact ih h
    rw [key efd, ex]
  obtain ⟨a', fd, ps, ⟨hp, hb⟩, h1, h2, h3, h4⟩ := gok_all (XR := fun _ _ _ _ _ => False) wk n e.f _ lk
  have ep : ps = [p] := by
    rw [hp]
    show ((L.ents.find? _).map _).getD _ = _
    rw [efd]
    exact eps
  subst ep
  rw [hmg] at h1
  cases h1
  refine ⟨fd, _, fun s u => hb s [u] rfl, fun H a ns hl _ hS => ?_, fun base _ _ => h4 base⟩
  obtain ⟨h', e9⟩ := good ns hl
  refine ⟨⟨H, []⟩, [], [.scr ns], ⟨fun _ _ z => z, List.nodup_nil, (fun _ z => nomatch z), rfl, fun i c z => by simp at z⟩, .cons (.scr hS) .nil, ?_⟩
  rw [e9]
  intro w' H' v e S r
  have r : w'.R K _ v (.bl true) := r
  cases r
  rfl
/-- the law's call, by the evaluator's answer -/
theorem walk_end {l : PySem.W.OpenLaw} {n k : Nat} {q : Program} {loose : List Str} {XP : (Str → Option Value) → PySem.Heap → Prop} {YP : World → PySem.Heap → Prop} {d : DefRec} {x : Str} (hn : l.most = some n) (lim : n ≤ sizeLine) (hd : d.params.defaults = []) (hr : Room k callerA)
    (F : ∀ (w : World) (mg : Str → Option Value) (fa : Addr) (h : PySem.Heap), YP w h → h.Ns mainGlobals mg → mg d.name = some (.ref fa) → ∃ (K : PySem.W.Frag) (fd : FuncData) (sp : Sp), K.In h ∧ (∀ (s : Shared) (u : Value), BindsTo s fd ⟨[u], []⟩ [(x, u)]) ∧
      (∀ (H : Hp) (a : Addr) (ns : List Int), ns.length ≤ n → Only H → SqL K H a (ns.map V.int) → sp [.ref a] H (fun v _ => v = .bl true) fun _ _ _ => False) ∧ ∀ base : PySem.Heap, K.In base → base.Ns mainGlobals mg → FnOk l.prog w K mg base (L2.CX l.prog w) k fa fd [x] sp) :
    PySem.W.WalkO q loose XP YP l.row.toRowW d [] (fun f vs => PySem.call f vs) := by
  refine Att.attach_call hn hd fun w s0 s1 mg mb fa o pm cd doc a vs ns G Y ho hd hcd hmg hobj hi hl hg => ?_
  obtain ⟨K, fd, sp, KX, hb, hsp, hF⟩ := F w mg fa _ Y G.T.g hmg
  refine law_call KX G.T.g G.T.b G.T.builtins G.T.nolimit hg hobj hi (Nat.le_trans hl lim) hr hF hb (fun H hO hS => hsp H a ns hl hO hS) fun H e s2 z => ?_
  obtain ⟨_, _, _, _, _, _, _, _, _, _, _, _, z⟩ := z
  exact z
end Lb
end
section
set_option Elab.async false
set_option linter.all false
set_option maxRecDepth 100000
namespace Lb.Raw
/-- the run ends well, and P -/
def sat {α : Type} (r : R α) (P : α → Heap → Prop) : Prop := match r with
  | .ok a h => P a h
  | _ => False
/-- .. of a statement: N where it goes on, T where it tells -/
def osat (o : Out) (N : Fr → Heap → Prop) (T : D → Heap → Prop) : Prop := match o with
  | .nx σ h => N σ h
  | .rt d h => T d h
  | _ => False
section
variable {α β : Type}
theorem sat_ok {a : α} {h : Heap} {P : α → Heap → Prop} : sat (.ok a h) P = P a h := rfl
theorem sat_bind {r : R α} {f : α → Heap → R β} {P : β → Heap → Prop} : sat (r.bind f) P = sat r fun a h => sat (f a h) P := by
  cases r <;> rfl
theorem sat_of {h : Heap} {o : Option α} {P : α → Heap → Prop} : sat (R.of h o) P = ∃ a, o = some a ∧ P a h := by
  cases o with
  | none => exact propext ⟨fun z => z.elim, fun ⟨_, z, _⟩ => nomatch z⟩
  | some a => exact propext ⟨fun z => ⟨a, rfl, z⟩, fun ⟨_, z, q⟩ => by cases z; exact q⟩
theorem sat.mono {r : R α} {P Q : α → Heap → Prop} (h : sat r P) (i : ∀ a h, P a h → Q a h) : sat r Q := by
  cases r with
  | ok a h' => exact i a h' h
  | _ => exact h
theorem sat.get {r : R α} {P : α → Heap → Prop} (h : sat r P) : ∃ a h', r = .ok a h' ∧ P a h' := by
  cases r with
  | ok a h' => exact ⟨a, h', rfl, h⟩
  | _ => exact h.elim
theorem osat_out {r : R α} {σ : Fr} {f : α → Heap → Out} {N : Fr → Heap → Prop} {T : D → Heap → Prop} : osat (r.out σ f) N T = sat r fun a h => osat (f a h) N T := by
  cases r <;> rfl
theorem osat_nx {σ : Fr} {h : Heap} {N : Fr → Heap → Prop} {T : D → Heap → Prop} : osat (.nx σ h) N T = N σ h := rfl
theorem osat_rt {d : D} {h : Heap} {N : Fr → Heap → Prop} {T : D → Heap → Prop} : osat (.rt d h) N T = T d h := rfl
theorem osat.mono {o : Out} {N N' : Fr → Heap → Prop} {T T' : D → Heap → Prop} (h : osat o N T) (i : ∀ σ h, N σ h → N' σ h) (j : ∀ d h, T d h → T' d h) : osat o N' T' := by
  cases o with
  | nx σ h' => exact i σ h' h
  | rt d h' => exact j d h' h
  | _ => exact h
theorem osat_cons {c : Cl} {s : S} {r : Ss} {σ : Fr} {h : Heap} {N : Fr → Heap → Prop} {T : D → Heap → Prop} : osat (evSs c (.cons s r) σ h) N T = osat (evS c s σ h) (fun σ h => osat (evSs c r σ h) N T) T := by
  show osat (match evS c s σ h with
    | .nx σ1 h1 => evSs c r σ1 h1
    | o => o) N T = _
  cases evS c s σ h <;> rfl
theorem osat_nil {c : Cl} {σ : Fr} {h : Heap} {N : Fr → Heap → Prop} {T : D → Heap → Prop} : osat (evSs c .nil σ h) N T = N σ h := rfl
theorem osat_ite {c : Cl} {t : Ex} {a b : Ss} {σ : Fr} {h : Heap} {N : Fr → Heap → Prop} {T : D → Heap → Prop} : osat (evS c (.ite t a b) σ h) N T = sat (evE c σ t h) fun x h1 => ∃ k, truth x = some k ∧ if k = true then osat (evSs c a σ h1) N T else osat (evSs c b σ h1) N T := by
  show osat ((evT c σ t h).out σ fun k h1 => match k with
    | true => evSs c a σ h1
    | false => evSs c b σ h1) N T = _
  rw [osat_out]
  unfold evT
  rw [sat_bind]
  congr 1
  funext x h1
  rw [sat_of]
  apply propext
  constructor
  · rintro ⟨k, e, q⟩
    refine ⟨k, e, ?_⟩
    cases k <;> simpa using q
  · rintro ⟨k, e, q⟩
    refine ⟨k, e, ?_⟩
    cases k <;> simpa using q
end
theorem run_sat {c : Cl} {fd : Fd} {ds : List D} {h : Heap} {P : D → Heap → Prop} (hl : ds.length = fd.ps) (q : osat (evSs c fd.body (ds.map .v ++ List.replicate (fd.n - fd.ps) .no) h) (fun _ h => P .non h) P) : sat (fd.run c ds h) P := by
  unfold Fd.run
  rw [if_pos hl]
  cases e : evSs c fd.body (ds.map .v ++ List.replicate (fd.n - fd.ps) .no) h with
  | nx σ h1 => rw [e] at q; exact q
  | rt d h1 => rw [e] at q; exact q
  | _ => rw [e] at q; exact q.elim
theorem call_sat {E : Env} {n f : Nat} {fd : Fd} {ds : List D} {h : Heap} {P : D → Heap → Prop} (e : E f = some fd) (hl : ds.length = fd.ps) (q : osat (evSs (callN E n) fd.body (ds.map .v ++ List.replicate (fd.n - fd.ps) .no) h) (fun _ h => P .non h) P) : sat (callN E (n + 1) f ds h) P := by
  show sat (match E f with
    | some fd => fd.run (callN E n) ds h
    | none => .bad) P
  rw [e]
  exact run_sat hl q
theorem loop_sat {tg : Tg} {f : Fr → Heap → Out} {N : Fr → Heap → Prop} {T : D → Heap → Prop} (I : Nat → Fr → Heap → Prop) : ∀ (xs : List D) (i : Nat) (σ : Fr) (h : Heap), I i σ h →
    (∀ (j : Nat) x σ h, xs[j]? = some x → I (i + j) σ h → ∃ σ1, tg.set x σ = some σ1 ∧ osat (f σ1 h) (I (i + j + 1)) T) → (∀ σ h, I (i + xs.length) σ h → N σ h) → osat (loopF tg f xs σ h) N T
  | [], i, σ, h, h0, _, hN => hN σ h h0
  | x :: r, i, σ, h, h0, hs, hN => by
    obtain ⟨σ1, e, q⟩ := hs 0 x σ h rfl h0
    show osat (match tg.set x σ with
      | none => .bad
      | some σ1 => match f σ1 h with
        | .nx σ2 h2 => loopF tg f r σ2 h2
        | .ct σ2 h2 => loopF tg f r σ2 h2
        | o => o) N T
    rw [e]
    have q : osat (f σ1 h) (I (i + 1)) T := q
    show osat (match f σ1 h with
      | .nx σ2 h2 => loopF tg f r σ2 h2
      | .ct σ2 h2 => loopF tg f r σ2 h2
      | o => o) N T
    cases ef : f σ1 h with
    | nx σ2 h2 =>
      rw [ef] at q
      refine loop_sat I r (i + 1) σ2 h2 q (fun j x σ h ex hI => ?_) (fun σ h hI => hN σ h (by
        rw [List.length_cons]
        have e : i + (r.length + 1) = i + 1 + r.length := by omega
        rw [e]; exact hI))
      have e1 : i + 1 + j = i + (j + 1) := by omega
      rw [e1] at hI ⊢
      exact hs (j + 1) x σ h (by simpa using ex) hI
    | ct σ2 h2 => rw [ef] at q; exact q.elim
    | rt d h2 => rw [ef] at q; exact q
    | ex _ _ _ _ => rw [ef] at q; exact q.elim
    | bad => rw [ef] at q; exact q.elim
theorem for_sat {c : Cl} {tg : Tg} {it : It} {b : Ss} {σ : Fr} {h : Heap} {N : Fr → Heap → Prop} {T : D → Heap → Prop} (q : sat (evI c σ it h) fun xs h1 => osat (loopF tg (fun σ h => evSs c b σ h) xs σ h1) N T) : osat (evS c (.for_ tg it b) σ h) N T := by
  show osat ((evI c σ it h).out σ fun xs h1 => loopF tg (fun σ h => evSs c b σ h) xs σ h1) N T
  rw [osat_out]
  exact q
/-- a comprehension's turns -/
theorem comp_sat {f : D → Heap → R (Option D)} {P : List (Option D) → Heap → Prop} (I : Nat → List (Option D) → Heap → Prop) : ∀ (xs : List D) (i : Nat) (acc : List (Option D)) (h : Heap), I i acc h →
    (∀ (j : Nat) x acc h, xs[j]? = some x → I (i + j) acc h → sat (f x h) fun y h2 => I (i + j + 1) (acc ++ [y]) h2) → (∀ acc h, I (i + xs.length) acc h → P acc h) → sat (compL f xs h) fun ys h2 => ∃ zs, ys = zs.filterMap id ∧ P (acc ++ zs) h2
  | [], i, acc, h, h0, _, hP => ⟨[], rfl, by rw [List.append_nil]; exact hP acc h h0⟩
  | x :: r, i, acc, h, h0, hs, hP => by
    obtain ⟨y, h1, e1, q1⟩ := (hs 0 x acc h rfl h0).get
    have ih := comp_sat (P := P) I r (i + 1) (acc ++ [y]) h1 q1 (fun j x acc h ex hI => by
      have e1 : i + 1 + j = i + (j + 1) := by omega
      rw [e1] at hI ⊢
      exact hs (j + 1) x acc h (by simpa using ex) hI) (fun acc h hI => hP acc h (by
        rw [List.length_cons]
        have e : i + (r.length + 1) = i + 1 + r.length := by omega
        rw [e]; exact hI))
    obtain ⟨ys, h2, e2, zs, ez, q2⟩ := ih.get
    show sat (match f x h with
      | .ok y h1 => (match compL f r h1 with
        | .ok ys h2 => .ok (match y with
          | some z => z :: ys
          | none => ys) h2
        | _ => .bad)
      | _ => .bad) _
    rw [e1]
    show sat (match compL f r h1 with
        | .ok ys h2 => .ok (match y with
          | some z => z :: ys
          | none => ys) h2
        | _ => .bad) _
    rw [e2]
    refine ⟨y :: zs, ?_, by rw [List.append_assoc] at q2; exact q2⟩
    cases y with
    | none => simpa using ez
    | some z => simp [ez]
end Lb.Raw
end
section
set_option Elab.async false
set_option linter.all false
set_option maxRecDepth 100000
namespace Lb.Raw
section
variable {c : Cl} {σ : Fr} {h : Heap} {P : D → Heap → Prop} {N : Fr → Heap → Prop} {T : D → Heap → Prop}
@[simp] theorem s_ok {α : Type} {a : α} {P : α → Heap → Prop} : sat (.ok a h) P = P a h := rfl
@[simp] theorem s_bind {α β : Type} {r : R α} {f : α → Heap → R β} {P : β → Heap → Prop} : sat (r.bind f) P = sat r fun a h => sat (f a h) P := sat_bind
@[simp] theorem s_of {α : Type} {o : Option α} {P : α → Heap → Prop} : sat (R.of h o) P = ∃ a, o = some a ∧ P a h := sat_of
@[simp] theorem o_cons {s : S} {r : Ss} : osat (evSs c (.cons s r) σ h) N T = osat (evS c s σ h) (fun σ h => osat (evSs c r σ h) N T) T := osat_cons
@[simp] theorem o_nil : osat (evSs c .nil σ h) N T = N σ h := rfl
@[simp] theorem o_ite {t : Ex} {a b : Ss} : osat (evS c (.ite t a b) σ h) N T = sat (evE c σ t h) fun x h1 => ∃ k, truth x = some k ∧ if k = true then osat (evSs c a σ h1) N T else osat (evSs c b σ h1) N T := osat_ite
@[simp] theorem o_out {α : Type} {r : R α} {f : α → Heap → Out} : osat (r.out σ f) N T = sat r fun a h => osat (f a h) N T := osat_out
@[simp] theorem o_nx : osat (.nx σ h) N T = N σ h := rfl
@[simp] theorem o_rt {d : D} : osat (.rt d h) N T = T d h := rfl
@[simp] theorem o_asg {i : Nat} {e : Ex} : osat (evS c (.asg (.nm i) e) σ h) N T = sat (evE c σ e h) fun x h1 => N (σ.set i (.v x)) h1 := osat_out
@[simp] theorem o_ret {e : Ex} : osat (evS c (.ret e) σ h) N T = sat (evE c σ e h) T := osat_out
@[simp] theorem e_var {i : Nat} : sat (evE c σ (.var i) h) P = ∃ d, σ[i]? = some (.v d) ∧ P d h := by
  show sat (match σ[i]? with
    | some (.v d) => .ok d h
    | _ => .bad) P = _
  cases e : σ[i]? with
  | none => exact propext ⟨fun z => z.elim, fun ⟨_, z, _⟩ => nomatch z⟩
  | some s =>
    cases s with
    | v d => exact propext ⟨fun z => ⟨d, rfl, z⟩, fun ⟨_, z, q⟩ => by cases z; exact q⟩
    | no => exact propext ⟨fun z => z.elim, fun ⟨_, z, _⟩ => nomatch z⟩
    | own xs => exact propext ⟨fun z => z.elim, fun ⟨_, z, _⟩ => nomatch z⟩
@[simp] theorem e_peek {i : Nat} : sat (evE c σ (.peek i) h) P = ∃ xs, σ[i]? = some (.own xs) ∧ P (.lst xs) h := by
  show sat (match σ[i]? with
    | some (.own xs) => .ok (.lst xs) h
    | _ => .bad) P = _
  cases e : σ[i]? with
  | none => exact propext ⟨fun z => z.elim, fun ⟨_, z, _⟩ => nomatch z⟩
  | some s =>
    cases s with
    | own d => exact propext ⟨fun z => ⟨d, rfl, z⟩, fun ⟨_, z, q⟩ => by cases z; exact q⟩
    | no => exact propext ⟨fun z => z.elim, fun ⟨_, z, _⟩ => nomatch z⟩
    | v xs => exact propext ⟨fun z => z.elim, fun ⟨_, z, _⟩ => nomatch z⟩
@[simp] theorem e_lit {d : D} : sat (evE c σ (.lit d) h) P = P d h := rfl
@[simp] theorem e_bin {o : Op} {a b : Ex} : sat (evE c σ (.bin o a b) h) P = sat (evE c σ a h) fun x h1 => sat (evE c σ b h1) fun y h2 => ∃ z, bin o (rd h2 x) (rd h2 y) = some z ∧ P z h2 := by
  show sat ((evE c σ a h).bind fun x h1 => (evE c σ b h1).bind fun y h2 => .of h2 (bin o (rd h2 x) (rd h2 y))) P = _
  simp only [s_bind, s_of]
@[simp] theorem e_cmp {o : Cm} {a b : Ex} : sat (evE c σ (.cmp o a b) h) P = sat (evE c σ a h) fun x h1 => sat (evE c σ b h1) fun y h2 => ∃ k, cmp o (rd h2 x) (rd h2 y) = some k ∧ P (.bl k) h2 := by
  show sat ((evE c σ a h).bind fun x h1 => (evE c σ b h1).bind fun y h2 => .of h2 ((cmp o (rd h2 x) (rd h2 y)).map .bl)) P = _
  simp only [s_bind, s_of, Option.map_eq_some_iff]
  congr 1; funext x h1; congr 1; funext y h2
  exact propext ⟨fun ⟨_, ⟨k, e, rfl⟩, q⟩ => ⟨k, e, q⟩, fun ⟨k, e, q⟩ => ⟨_, ⟨k, e, rfl⟩, q⟩⟩
theorem s_bl {r : R D} {f : D → Heap → R D} (Q : Bool → Heap → Prop) (hq : ∀ b h1, sat (f (.bl b) h1) P = Q b h1) (hn : ∀ d h1, (∀ b, d ≠ .bl b) → f d h1 = .bad) : sat (r.bind f) P = sat r fun x h1 => ∃ b, x = .bl b ∧ Q b h1 := by
  rw [s_bind]
  congr 1; funext x h1
  by_cases c : ∃ b, x = .bl b
  · obtain ⟨b, rfl⟩ := c
    rw [hq]
    exact propext ⟨fun z => ⟨b, rfl, z⟩, fun ⟨_, z, q⟩ => by cases z; exact q⟩
  · rw [hn x h1 fun b z => c ⟨b, z⟩]
    exact propext ⟨fun z => z.elim, fun ⟨b, z, _⟩ => (c ⟨b, z⟩).elim⟩
@[simp] theorem e_not {a : Ex} : sat (evE c σ (.not a) h) P = sat (evE c σ a h) fun x h1 => ∃ b, x = .bl b ∧ P (.bl (!b)) h1 :=
  s_bl (fun b h1 => P (.bl (!b)) h1) (fun _ _ => rfl) (fun d h1 hd => by cases d <;> first | rfl | exact absurd rfl (hd _))
@[simp] theorem e_and {a b : Ex} : sat (evE c σ (.and a b) h) P = sat (evE c σ a h) fun x h1 => ∃ k, x = .bl k ∧ if k = true then sat (evE c σ b h1) P else P (.bl false) h1 :=
  s_bl (fun k h1 => if k = true then sat (evE c σ b h1) P else P (.bl false) h1) (fun k _ => by cases k <;> rfl) (fun d h1 hd => by cases d <;> first | rfl | exact absurd rfl (hd _))
@[simp] theorem e_or {a b : Ex} : sat (evE c σ (.or a b) h) P = sat (evE c σ a h) fun x h1 => ∃ k, x = .bl k ∧ if k = true then P (.bl true) h1 else sat (evE c σ b h1) P :=
  s_bl (fun k h1 => if k = true then P (.bl true) h1 else sat (evE c σ b h1) P) (fun k _ => by cases k <;> rfl) (fun d h1 hd => by cases d <;> first | rfl | exact absurd rfl (hd _))
@[simp] theorem e_isk {n : Bool} {a : Ex} {k : Kc} : sat (evE c σ (.isk n a k) h) P = sat (evE c σ a h) fun x h1 => ∃ b, isk k x = some b ∧ P (.bl (b != n)) h1 := by
  show sat ((evE c σ a h).bind fun x h1 => .of h1 ((isk k x).map fun b => .bl (b != n))) P = _
  simp only [s_bind, s_of, Option.map_eq_some_iff]
  congr 1; funext x h1
  exact propext ⟨fun ⟨_, ⟨k, e, rfl⟩, q⟩ => ⟨k, e, q⟩, fun ⟨k, e, q⟩ => ⟨_, ⟨k, e, rfl⟩, q⟩⟩
@[simp] theorem e_ix {a i : Ex} : sat (evE c σ (.ix a i) h) P = sat (evE c σ a h) fun x h1 => sat (evE c σ i h1) fun y h2 => ∃ z, item (rd h2 x) y = some z ∧ P z h2 := by
  show sat ((evE c σ a h).bind fun x h1 => (evE c σ i h1).bind fun y h2 => .of h2 (item (rd h2 x) y)) P = _
  simp only [s_bind, s_of]
@[simp] theorem p_no {P : Option Int → Heap → Prop} : sat (evP c σ .no h) P = P none h := rfl
@[simp] theorem p_at {a : Ex} {P : Option Int → Heap → Prop} : sat (evP c σ (.at a) h) P = sat (evE c σ a h) fun x h1 => ∃ i, x = .int i ∧ P (some i) h1 := by
  show sat ((evE c σ a h).bind fun x h1 => match x with
    | .int i => .ok (some i) h1
    | _ => .bad) P = _
  rw [s_bind]
  congr 1; funext x h1
  cases x <;> first | exact propext ⟨fun z => z.elim, fun ⟨_, z, _⟩ => nomatch z⟩ | exact propext ⟨fun z => ⟨_, rfl, z⟩, fun ⟨_, z, q⟩ => by cases z; exact q⟩
@[simp] theorem e_slice {a : Ex} {lo hi : Po} : sat (evE c σ (.slice a lo hi) h) P = sat (evE c σ a h) fun x h1 => sat (evP c σ lo h1) fun y h2 => sat (evP c σ hi h2) fun z h3 => ∃ w, slice y z (rd h3 x) = some w ∧ P w h3 := by
  show sat ((evE c σ a h).bind fun x h1 => (evP c σ lo h1).bind fun y h2 => (evP c σ hi h2).bind fun z h3 => .of h3 (slice y z (rd h3 x))) P = _
  simp only [s_bind, s_of]
@[simp] theorem e_rev {a : Ex} : sat (evE c σ (.rev a) h) P = sat (evE c σ a h) fun x h1 => ∃ w, rev (rd h1 x) = some w ∧ P w h1 := by
  show sat ((evE c σ a h).bind fun x h1 => .of h1 (rev (rd h1 x))) P = _
  simp only [s_bind, s_of]
@[simp] theorem es_nil {P : List D → Heap → Prop} : sat (evEs c σ .nil h) P = P [] h := rfl
@[simp] theorem es_cons {e : Ex} {es : Exs} {P : List D → Heap → Prop} : sat (evEs c σ (.cons e es) h) P = sat (evE c σ e h) fun x h1 => sat (evEs c σ es h1) fun xs h2 => P (x :: xs) h2 := by
  show sat ((evE c σ e h).bind fun x h1 => (evEs c σ es h1).bind fun xs h2 => .ok (x :: xs) h2) P = _
  simp only [s_bind, s_ok]
@[simp] theorem e_tup {es : Exs} : sat (evE c σ (.tup es) h) P = sat (evEs c σ es h) fun ds h1 => ds.length ≤ sz ∧ P (.tup ds) h1 := by
  show sat ((evEs c σ es h).bind fun ds h1 => if ds.length ≤ sz then .ok (.tup ds) h1 else .bad) P = _
  rw [s_bind]
  congr 1; funext ds h1
  by_cases q : ds.length ≤ sz
  · rw [if_pos q]; exact propext ⟨fun z => ⟨q, z⟩, fun z => z.2⟩
  · rw [if_neg q]; exact propext ⟨fun z => z.elim, fun z => absurd z.1 q⟩
@[simp] theorem e_lst {es : Exs} : sat (evE c σ (.lst es) h) P = sat (evEs c σ es h) fun ds h1 => ds.length ≤ sz ∧ P (.lst ds) h1 := by
  show sat ((evEs c σ es h).bind fun ds h1 => if ds.length ≤ sz then .ok (.lst ds) h1 else .bad) P = _
  rw [s_bind]
  congr 1; funext ds h1
  by_cases q : ds.length ≤ sz
  · rw [if_pos q]; exact propext ⟨fun z => ⟨q, z⟩, fun z => z.2⟩
  · rw [if_neg q]; exact propext ⟨fun z => z.elim, fun z => absurd z.1 q⟩
@[simp] theorem e_call {f : Nat} {es : Exs} : sat (evE c σ (.call f es) h) P = sat (evEs c σ es h) fun ds h1 => sat (c f ds h1) P := s_bind
@[simp] theorem e_blt {b : B} {es : Exs} : sat (evE c σ (.blt b es) h) P = sat (evEs c σ es h) fun ds h1 => ∃ z, blt b (ds.map (rd h1)) = some z ∧ P z h1 := by
  show sat ((evEs c σ es h).bind fun ds h1 => .of h1 (blt b (ds.map (rd h1)))) P = _
  simp only [s_bind, s_of]
@[simp] theorem e_isi {a : Ex} {t : Ty} : sat (evE c σ (.isi a t) h) P = sat (evE c σ a h) fun x h1 => ∃ k, isTy (rd h1 x) t = some k ∧ P (.bl k) h1 := by
  show sat ((evE c σ a h).bind fun x h1 => .of h1 ((isTy (rd h1 x) t).map .bl)) P = _
  simp only [s_bind, s_of, Option.map_eq_some_iff]
  congr 1; funext x h1
  exact propext ⟨fun ⟨_, ⟨k, e, rfl⟩, q⟩ => ⟨k, e, q⟩, fun ⟨k, e, q⟩ => ⟨_, ⟨k, e, rfl⟩, q⟩⟩
@[simp] theorem e_sset {a : Ex} : sat (evE c σ (.sset a) h) P = sat (evE c σ a h) fun x h1 => ∃ z, bSset (rd h1 x) = some z ∧ P z h1 := by
  show sat ((evE c σ a h).bind fun x h1 => .of h1 (bSset (rd h1 x))) P = _
  simp only [s_bind, s_of]
@[simp] theorem e_sumL {a : Ex} : sat (evE c σ (.sumL a) h) P = sat (evE c σ a h) fun x h1 => ∃ z, bSumL (rd h1 x) = some z ∧ P z h1 := by
  show sat ((evE c σ a h).bind fun x h1 => .of h1 (bSumL (rd h1 x))) P = _
  simp only [s_bind, s_of]
theorem s_str {r : R D} {f : D → Heap → R D} (Q : Tx → Heap → Prop) (hq : ∀ b h1, sat (f (.str b) h1) P = Q b h1) (hn : ∀ d h1, (∀ b, d ≠ .str b) → f d h1 = .bad) : sat (r.bind f) P = sat r fun x h1 => ∃ b, x = .str b ∧ Q b h1 := by
  rw [s_bind]
  congr 1; funext x h1
  by_cases c : ∃ b, x = .str b
  · obtain ⟨b, rfl⟩ := c
    rw [hq]
    exact propext ⟨fun z => ⟨b, rfl, z⟩, fun ⟨_, z, q⟩ => by cases z; exact q⟩
  · rw [hn x h1 fun b z => c ⟨b, z⟩]
    exact propext ⟨fun z => z.elim, fun ⟨b, z, _⟩ => (c ⟨b, z⟩).elim⟩
@[simp] theorem e_mth {m : M} {o : Ex} {es : Exs} : sat (evE c σ (.mth m o es) h) P = sat (evE c σ o h) fun x h1 => ∃ t, x = .str t ∧ sat (evEs c σ es h1) fun ds h2 => ∃ z, mth m (.str t) (ds.map (rd h2)) = some z ∧ P z h2 :=
  s_str (fun t h1 => sat (evEs c σ es h1) fun ds h2 => ∃ z, mth m (.str t) (ds.map (rd h2)) = some z ∧ P z h2) (fun t h1 => by simp only [s_bind, s_of]) (fun d h1 hd => by cases d <;> first | rfl | exact absurd rfl (hd _))
@[simp] theorem e_mk {e : Ex} : sat (evE c σ (.mk e) h) P = sat (evE c σ e h) fun x h1 => ∃ xs, x = .lst xs ∧ P (.cell h1.length) (h1 ++ [.lst xs]) := by
  show sat ((evE c σ e h).bind fun x h1 => match x with
    | .lst xs => .ok (.cell h1.length) (h1 ++ [.lst xs])
    | _ => .bad) P = _
  rw [s_bind]
  congr 1; funext x h1
  cases x <;> first | exact propext ⟨fun z => z.elim, fun ⟨_, z, _⟩ => nomatch z⟩ | exact propext ⟨fun z => ⟨_, rfl, z⟩, fun ⟨_, z, q⟩ => by cases z; exact q⟩
@[simp] theorem o_own {i : Nat} {e : Ex} : osat (evS c (.own i e) σ h) N T = sat (evE c σ e h) fun x h1 => ∃ xs, x = .lst xs ∧ N (σ.set i (.own xs)) h1 := by
  show osat ((evE c σ e h).out σ fun x h1 => match x with
    | .lst xs => .nx (σ.set i (.own xs)) h1
    | _ => .bad) N T = _
  rw [o_out]
  congr 1; funext x h1
  cases x <;> first | exact propext ⟨fun z => z.elim, fun ⟨_, z, _⟩ => nomatch z⟩ | exact propext ⟨fun z => ⟨_, rfl, z⟩, fun ⟨_, z, q⟩ => by cases z; exact q⟩
@[simp] theorem o_cel {i : Nat} : osat (evS c (.cel i) σ h) N T = ∃ xs, σ[i]? = some (.own xs) ∧ N (σ.set i (.v (.cell h.length))) (h ++ [.lst xs]) := by
  show osat (match σ[i]? with
    | some (.own xs) => .nx (σ.set i (.v (.cell h.length))) (h ++ [.lst xs])
    | _ => .bad) N T = _
  cases e : σ[i]? with
  | none => exact propext ⟨fun z => z.elim, fun ⟨_, z, _⟩ => nomatch z⟩
  | some s =>
    cases s with
    | own d => exact propext ⟨fun z => ⟨d, rfl, z⟩, fun ⟨_, z, q⟩ => by cases z; exact q⟩
    | no => exact propext ⟨fun z => z.elim, fun ⟨_, z, _⟩ => nomatch z⟩
    | v xs => exact propext ⟨fun z => z.elim, fun ⟨_, z, _⟩ => nomatch z⟩
@[simp] theorem o_app {j : Nat} {e : Ex} : osat (evS c (.app j e) σ h) N T = ∃ xs, σ[j]? = some (.own xs) ∧ sat (evE c σ e h) fun x h1 => xs.length < sz ∧ N (σ.set j (.own (xs ++ [x]))) h1 := by
  show osat (match σ[j]? with
    | some (.own xs) => (evE c σ e h).out σ fun x h1 => if xs.length < sz then .nx (σ.set j (.own (xs ++ [x]))) h1 else .bad
    | _ => .bad) N T = _
  cases e1 : σ[j]? with
  | none => exact propext ⟨fun z => z.elim, fun ⟨_, z, _⟩ => nomatch z⟩
  | some s =>
    cases s with
    | own d =>
      show osat ((evE c σ e h).out σ fun x h1 => if d.length < sz then .nx (σ.set j (.own (d ++ [x]))) h1 else .bad) N T = _
      rw [o_out]
      refine propext ⟨fun z => ⟨d, rfl, z.mono fun x h1 q => ?_⟩, fun ⟨_, z, q⟩ => by cases z; exact q.mono fun x h1 q => by rw [if_pos q.1]; exact q.2⟩
      by_cases l : d.length < sz
      · rw [if_pos l] at q; exact ⟨l, q⟩
      · rw [if_neg l] at q; exact q.elim
    | no => exact propext ⟨fun z => z.elim, fun ⟨_, z, _⟩ => nomatch z⟩
    | v xs => exact propext ⟨fun z => z.elim, fun ⟨_, z, _⟩ => nomatch z⟩
/-- a cell's item is set -/
@[simp] theorem o_setix {o i e : Ex} : osat (evS c (.setix o i e) σ h) N T = sat (evE c σ e h) fun x h1 => sat (evE c σ o h1) fun y h2 => sat (evE c σ i h2) fun z h3 => ∃ a k xs j, y = .cell a ∧ z = .int k ∧ h3[a]? = some (.lst xs) ∧ ixN xs.length k = some j ∧ N σ (h3.set a (.lst (xs.set j x))) := by
  show osat ((evE c σ e h).out σ fun x h1 => (evE c σ o h1).out σ fun y h2 => (evE c σ i h2).out σ fun z h3 => match y, z with
    | .cell a, .int k => match h3[a]? with
      | some (.lst xs) => match ixN xs.length k with
        | some j => .nx σ (h3.set a (.lst (xs.set j x)))
        | none => .bad
      | _ => .bad
    | _, _ => .bad) N T = _
  simp only [o_out]
  congr 1; funext x h1; congr 1; funext y h2; congr 1; funext z h3
  have no : ∀ {G : Prop}, (G → False) → (osat .bad N T = G) := fun h => propext ⟨fun z => z.elim, fun z => (h z).elim⟩
  cases y <;> first | exact no (fun ⟨_, _, _, _, z, _⟩ => nomatch z) | skip
  rename_i a
  cases z <;> first | exact no (fun ⟨_, _, _, _, _, z, _⟩ => nomatch z) | skip
  rename_i k
  show osat (match h3[a]? with
      | some (.lst xs) => match ixN xs.length k with
        | some j => .nx σ (h3.set a (.lst (xs.set j x)))
        | none => .bad
      | _ => .bad) N T = _
  cases ea : h3[a]? with
  | none => exact no (fun ⟨_, _, _, _, z1, _, z2, _⟩ => by cases z1; rw [ea] at z2; cases z2)
  | some cc =>
    cases cc with
    | lst xs =>
      show osat (match ixN xs.length k with
        | some j => .nx σ (h3.set a (.lst (xs.set j x)))
        | none => .bad) N T = _
      cases ej : ixN xs.length k with
      | none => exact no (fun ⟨_, _, _, _, z1, z3, z2, z4, _⟩ => by cases z1; cases z3; rw [ea] at z2; cases z2; rw [ej] at z4; cases z4)
      | some j => exact propext ⟨fun q => ⟨a, k, xs, j, rfl, rfl, ea, ej, q⟩, fun ⟨_, _, _, _, z1, z3, z2, z4, q⟩ => by cases z1; cases z3; rw [ea] at z2; cases z2; rw [ej] at z4; cases z4; exact q⟩
    | dic _ => exact no (fun ⟨_, _, _, _, z1, _, z2, _⟩ => by cases z1; rw [ea] at z2; cases z2)
    | ins _ _ => exact no (fun ⟨_, _, _, _, z1, _, z2, _⟩ => by cases z1; rw [ea] at z2; cases z2)
end
end Lb.Raw
end
section
set_option Elab.async false
set_option linter.all false
set_option maxRecDepth 100000
namespace Lb
section
variable {α β : Type} {h : Heap} {i j : Int} {x y : Tx} {xs ys : List D} {b : Bool}
theorem ex_ite {c : Prop} [Decidable c] {a : α} {P : α → Prop} : (∃ z, (if c then some a else none) = some z ∧ P z) = (c ∧ P a) := by
  by_cases q : c
  · simp [q]
  · simp [q]
theorem ex_iten {c : Prop} [Decidable c] {a : α} {P : α → Prop} : (∃ z, (if c then none else some a) = some z ∧ P z) = (¬ c ∧ P a) := by
  by_cases q : c
  · simp [q]
  · simp [q]
theorem ex_some {a : α} {P : α → Prop} : (∃ z, some a = some z ∧ P z) = P a := by simp
theorem ex_sl {d : D} {P : D → Prop} : (∃ z, some (Sl.v d) = some (Sl.v z) ∧ P z) = P d := by simp
theorem ex_own {P : List D → Prop} : (∃ z, some (Sl.own xs) = some (Sl.own z) ∧ P z) = P xs := by simp
theorem ex_map {o : Option α} {f : α → β} {P : β → Prop} : (∃ z, o.map f = some z ∧ P z) = ∃ y, o = some y ∧ P (f y) := by
  cases o <;> simp
theorem ex_bl {P : Bool → Prop} : (∃ z, D.bl b = D.bl z ∧ P z) = P b := by simp
theorem ex_int {P : Int → Prop} : (∃ z, D.int i = D.int z ∧ P z) = P i := by simp
theorem ex_str {P : Tx → Prop} : (∃ z, D.str x = D.str z ∧ P z) = P x := by simp
theorem ex_lst {P : List D → Prop} : (∃ z, D.lst xs = D.lst z ∧ P z) = P xs := by simp
theorem if_tt {p q : Prop} : (if true = true then p else q) = p := if_pos rfl
theorem if_ff {p q : Prop} : (if false = true then p else q) = q := if_neg Bool.false_ne_true
theorem if_dec {c p q : Prop} [Decidable c] : (if decide c = true then p else q) = if c then p else q := by
  by_cases z : c <;> simp [z]
theorem if_not {p q : Prop} : (if (!b) = true then p else q) = if b = true then q else p := by
  cases b <;> simp
theorem rd_non : rd h .non = .non := rfl
theorem rd_bl : rd h (.bl b) = .bl b := rfl
theorem rdd_int : rd h (.int i) = .int i := rfl
theorem rdd_str : rd h (.str x) = .str x := rfl
theorem rd_tup : rd h (.tup xs) = .tup xs := rfl
theorem rd_lst : rd h (.lst xs) = .lst xs := rfl
theorem rd_scr {ns : List Int} : rd h (.scr ns) = .scr ns := rfl
theorem rd_cell {a : Nat} (e : h[a]? = some (.lst xs)) : rd h (.cell a) = .lst xs := by
  show (match h[a]? with
    | some (Cell.lst xs) => D.lst xs
    | some (Cell.dic kvs) => D.dic kvs
    | _ => D.cell a) = _
  rw [e]
theorem b_add : bin .add (.int i) (.int j) = some (.int (i + j)) := rfl
theorem b_sub : bin .sub (.int i) (.int j) = some (.int (i - j)) := rfl
theorem b_mul : bin .mul (.int i) (.int j) = if (small i || small j) = true then some (.int (i * j)) else none := rfl
theorem b_fdiv : bin .fdiv (.int i) (.int j) = if (decide (j ≠ 0) && decide (j.natAbs < 1073741824)) = true then some (.int (i.fdiv j)) else none := rfl
theorem b_mod : bin .mod (.int i) (.int j) = if j = 0 then none else some (.int (i.fmod j)) := rfl
theorem b_pow : bin .pow (.int i) (.int j) = if 0 ≤ j ∧ j ≤ 1000000 ∧ i.natAbs < 2 ^ 64 then some (.int (i ^ j.toNat)) else none := rfl
theorem b_cat : bin .add (.str x) (.str y) = if x.length + y.length ≤ sz then some (.str (x ++ y)) else none := rfl
theorem b_catL : bin .add (.lst xs) (.lst ys) = if xs.length + ys.length ≤ sz then some (.lst (xs ++ ys)) else none := rfl
theorem b_catT : bin .add (.tup xs) (.tup ys) = if xs.length + ys.length ≤ sz then some (.tup (xs ++ ys)) else none := rfl
theorem c_lt : cmp .lt (.int i) (.int j) = some (decide (i < j)) := rfl
theorem c_gt : cmp .gt (.int i) (.int j) = some (decide (j < i)) := rfl
theorem c_le : cmp .le (.int i) (.int j) = some (decide (i ≤ j)) := by
  show some (!decide (j < i)) = _
  by_cases q : j < i
  · simp [q]
  · simp [q]; omega
theorem c_ge : cmp .ge (.int i) (.int j) = some (decide (j ≤ i)) := by
  show some (!decide (i < j)) = _
  by_cases q : i < j
  · simp [q]
  · simp [q]; omega
theorem c_eq : cmp .eq (.int i) (.int j) = some (decide (i = j)) := by
  show some (i == j) = _
  by_cases q : i = j <;> simp [q]
theorem c_ne : cmp .ne (.int i) (.int j) = some (decide (i ≠ j)) := by
  show some (!(i == j)) = _
  by_cases q : i = j <;> simp [q]
theorem c_eqs : cmp .eq (.str x) (.str y) = some (decide (x = y)) := by
  show some (x == y) = _
  by_cases q : x = y <;> simp [q]
theorem c_nes : cmp .ne (.str x) (.str y) = some (decide (x ≠ y)) := by
  show some (!(x == y)) = _
  by_cases q : x = y <;> simp [q]
theorem c_eqb {c : Bool} : cmp .eq (.bl b) (.bl c) = some (b == c) := rfl
theorem c_neb {c : Bool} : cmp .ne (.bl b) (.bl c) = some (!(b == c)) := rfl
theorem t_bl : truth (.bl b) = some b := rfl
theorem l_str : blt .len [.str x] = if x.length ≤ sz then some (.int x.length) else none := rfl
theorem l_lst : blt .len [.lst xs] = some (.int xs.length) := rfl
theorem l_tup : blt .len [.tup xs] = some (.int xs.length) := rfl
theorem l_scr {ns : List Int} : blt .len [.scr ns] = some (.int ns.length) := rfl
theorem m_min : blt .min2 [.int i, .int j] = some (.int (if j < i then j else i)) := rfl
theorem m_max : blt .max2 [.int i, .int j] = some (.int (if j > i then j else i)) := rfl
theorem m_tup : blt .tup [.lst xs] = some (.tup xs) := rfl
theorem m_lst : blt .lst [.lst xs] = some (.lst xs) := rfl
theorem m_intb : blt .int [.bl b] = some (.int (if b then 1 else 0)) := rfl
theorem m_inti : blt .int [.int i] = some (.int i) := rfl
theorem i_lst : item (.lst xs) (.int i) = atI xs i := rfl
theorem i_tup : item (.tup xs) (.int i) = atI xs i := rfl
theorem i_str : item (.str x) (.int i) = if x.length ≤ sz then (atI x i).map fun c => .str [c] else none := rfl
theorem i_scr {ns : List Int} : item (.scr ns) (.int i) = (atI ns i).map .int := rfl
theorem ixN_in {n : Nat} (h : 0 ≤ i) (h2 : i < n) : ixN n i = some i.toNat := by
  unfold ixN
  rw [if_pos h, if_pos h2]
theorem atI_in {xs : List α} (h : 0 ≤ i) (h2 : i < xs.length) : ∃ v, atI xs i = some v ∧ xs[i.toNat]? = some v ∧ v ∈ xs := by
  unfold atI
  rw [ixN_in h h2]
  have l : i.toNat < xs.length := by omega
  exact ⟨xs[i.toNat], List.getElem?_eq_getElem l, List.getElem?_eq_getElem l, List.getElem_mem l⟩
theorem at0 {a : α} {r : List α} : atI (a :: r) 0 = some a := by
  unfold atI ixN
  rw [if_pos (by omega), if_pos (by simp only [List.length_cons]; omega)]
  rfl
theorem at1 {a b : α} {r : List α} : atI (a :: b :: r) 1 = some b := by
  unfold atI ixN
  rw [if_pos (by omega), if_pos (by simp only [List.length_cons]; omega)]
  rfl
theorem at2 {a b c : α} {r : List α} : atI (a :: b :: c :: r) 2 = some c := by
  unfold atI ixN
  rw [if_pos (by omega), if_pos (by simp only [List.length_cons]; omega)]
  rfl
theorem small_mod {i m : Int} (h : 0 < m) (h2 : m < 2 ^ 64) : small (i.fmod m) = true := by
  have a := Int.fmod_nonneg_of_pos i h
  have b := Int.fmod_lt_of_pos i h
  unfold small
  rw [Bool.and_eq_true, decide_eq_true_eq, decide_eq_true_eq]
  omega
theorem small_in {i : Int} (h : -(2 ^ 64) < i) (h2 : i < 2 ^ 64) : small i = true := by
  unfold small
  rw [Bool.and_eq_true, decide_eq_true_eq, decide_eq_true_eq]
  exact ⟨h, h2⟩
theorem ex_iteo {α : Type} {c : Prop} [Decidable c] {o : Option α} {P : α → Prop} : (∃ z, (if c then o else none) = some z ∧ P z) = (c ∧ ∃ z, o = some z ∧ P z) := by
  by_cases q : c <;> simp [q]
theorem ex_iteno {α : Type} {c : Prop} [Decidable c] {o : Option α} {P : α → Prop} : (∃ z, (if c then none else o) = some z ∧ P z) = (¬ c ∧ ∃ z, o = some z ∧ P z) := by
  by_cases q : c <;> simp [q]
theorem w_tup {xs : List D} : walk (.tup xs) = some xs := rfl
theorem w_lst {xs : List D} : walk (.lst xs) = some xs := rfl
theorem w_str {x : Tx} : walk (.str x) = some (x.map fun c => .str [c]) := rfl
theorem ex_tup {xs : List D} {P : List D → Prop} : (∃ z, D.tup xs = D.tup z ∧ P z) = P xs := by simp
theorem set_nil {σ : Fr} : setAll [] [] σ = some σ := rfl
theorem set_cons {i : Nat} {is : List Nat} {d : D} {ds : List D} {σ : Fr} : setAll (i :: is) (d :: ds) σ = setAll is ds (σ.set i (.v d)) := rfl
theorem ty_str {x : Tx} : isTy (.str x) .str = some true := rfl
theorem ty_lst {xs : List D} : isTy (.lst xs) .lst = some true := rfl
theorem ty_tup {xs : List D} : isTy (.tup xs) .tup = some true := rfl
theorem ty_bool {b : Bool} : isTy (.bl b) .bool = some true := rfl
theorem rngL_at {lo : Int} : ∀ {n j : Nat} {x : D}, (rngL lo n)[j]? = some x → x = .int (lo + j) ∧ j < n
  | 0, j, x, h => nomatch h
  | n + 1, 0, x, h => by cases h; exact ⟨by simp, Nat.succ_pos _⟩
  | n + 1, j + 1, x, h => by
    obtain ⟨e, l⟩ := rngL_at (lo := lo + 1) (n := n) (j := j) (x := x) h
    exact ⟨by rw [e]; congr 1; push_cast; omega, by omega⟩
theorem rngL_n {lo : Int} : ∀ {n : Nat}, (rngL lo n).length = n
  | 0 => rfl
  | n + 1 => congrArg (· + 1) (rngL_n (lo := lo + 1) (n := n))
theorem rng_in {i : Int} (h : 0 ≤ i) (h2 : i < 2 ^ 62) : rngOk i = true := by
  unfold rngOk
  rw [Bool.and_eq_true, decide_eq_true_eq, decide_eq_true_eq]
  exact ⟨by omega, h2⟩
/-- a cell's list with a thing exchanged -/
def setC (h : Heap) (y z x : D) (P : Heap → Prop) : Prop := ∃ a k xs j, y = .cell a ∧ z = .int k ∧ h[a]? = some (.lst xs) ∧ ixN xs.length k = some j ∧ P (h.set a (.lst (xs.set j x)))
end
end Lb
end
section
set_option Elab.async false
set_option linter.all false
set_option maxRecDepth 100000
namespace Lb.Raw
section
variable {c : Cl} {σ : Fr} {h : Heap} {P : D → Heap → Prop} {N : Fr → Heap → Prop} {T : D → Heap → Prop}
theorem i_seq {e : Ex} {P : List D → Heap → Prop} : sat (evI c σ (.seq e) h) P = sat (evE c σ e h) fun x h1 => ∃ xs, walk x = some xs ∧ P xs h1 := by
  show sat ((evE c σ e h).bind fun x h1 => .of h1 (walk x)) P = _
  simp only [s_bind, s_of]
theorem i_rng1 {a : Ex} {P : List D → Heap → Prop} : sat (evI c σ (.rng1 a) h) P = sat (evE c σ a h) fun x h1 => ∃ i, x = .int i ∧ rngOk i = true ∧ P (rngL 0 i.toNat) h1 := by
  show sat ((evE c σ a h).bind fun x h1 => match x with
    | .int i => if rngOk i then .ok (rngL 0 i.toNat) h1 else .bad
    | _ => .bad) P = _
  rw [s_bind]
  congr 1; funext x h1
  cases x <;> first | exact propext ⟨fun z => z.elim, fun ⟨_, z, _⟩ => nomatch z⟩ | skip
  rename_i i
  show sat (if rngOk i then .ok (rngL 0 i.toNat) h1 else .bad) P = _
  by_cases q : rngOk i = true
  · rw [if_pos q]; exact propext ⟨fun z => ⟨i, rfl, q, z⟩, fun ⟨_, z, q, r⟩ => by cases z; exact r⟩
  · rw [if_neg q]; exact propext ⟨fun z => z.elim, fun ⟨_, z, q2, _⟩ => by cases z; exact (q q2).elim⟩
theorem i_rng2 {a b : Ex} {P : List D → Heap → Prop} : sat (evI c σ (.rng2 a b) h) P = sat (evE c σ a h) fun x h1 => sat (evE c σ b h1) fun y h2 => ∃ i j, x = .int i ∧ y = .int j ∧ rngOk i = true ∧ rngOk j = true ∧ P (rngL i (j - i).toNat) h2 := by
  show sat ((evE c σ a h).bind fun x h1 => (evE c σ b h1).bind fun y h2 => match x, y with
    | .int i, .int j => if rngOk i && rngOk j then .ok (rngL i (j - i).toNat) h2 else .bad
    | _, _ => .bad) P = _
  simp only [s_bind]
  congr 1; funext x h1; congr 1; funext y h2
  cases x <;> first | exact propext ⟨fun z => z.elim, fun ⟨_, _, z, _⟩ => nomatch z⟩ | skip
  rename_i i
  cases y <;> first | exact propext ⟨fun z => z.elim, fun ⟨_, _, _, z, _⟩ => nomatch z⟩ | skip
  rename_i j
  show sat (if rngOk i && rngOk j then .ok (rngL i (j - i).toNat) h2 else .bad) P = _
  by_cases q : (rngOk i && rngOk j) = true
  · rw [if_pos q]
    rw [Bool.and_eq_true] at q
    exact propext ⟨fun z => ⟨i, j, rfl, rfl, q.1, q.2, z⟩, fun ⟨_, _, z, z2, _, _, r⟩ => by cases z; cases z2; exact r⟩
  · rw [if_neg q]; exact propext ⟨fun z => z.elim, fun ⟨_, _, z, z2, q2, q3, _⟩ => by cases z; cases z2; exact (q (by rw [q2, q3]; rfl)).elim⟩
theorem i_own {j : Nat} {P : List D → Heap → Prop} : sat (evI c σ (.own j) h) P = ∃ xs, σ[j]? = some (.own xs) ∧ P xs h := by
  show sat (match σ[j]? with
    | some (.own xs) => .ok xs h
    | _ => .bad) P = _
  cases e : σ[j]? with
  | none => exact propext ⟨fun z => z.elim, fun ⟨_, z, _⟩ => nomatch z⟩
  | some s =>
    cases s with
    | own d => exact propext ⟨fun z => ⟨d, rfl, z⟩, fun ⟨_, z, q⟩ => by cases z; exact q⟩
    | no => exact propext ⟨fun z => z.elim, fun ⟨_, z, _⟩ => nomatch z⟩
    | v xs => exact propext ⟨fun z => z.elim, fun ⟨_, z, _⟩ => nomatch z⟩
theorem i_cel {j : Nat} {P : List D → Heap → Prop} : sat (evI c σ (.cel j) h) P = ∃ d, σ[j]? = some (.v d) ∧ ∃ a, d = .cell a ∧ ∃ xs, h[a]? = some (.lst xs) ∧ P xs h := by
  show sat (match σ[j]? with
    | some (.v (.cell a)) => (match h[a]? with
      | some (.lst xs) => .ok xs h
      | _ => .bad)
    | _ => .bad) P = _
  cases e : σ[j]? with
  | none => exact propext ⟨fun z => z.elim, fun ⟨_, z, _⟩ => nomatch z⟩
  | some s =>
    cases s with
    | own d => exact propext ⟨fun z => z.elim, fun ⟨_, z, _⟩ => nomatch z⟩
    | no => exact propext ⟨fun z => z.elim, fun ⟨_, z, _⟩ => nomatch z⟩
    | v d =>
      cases d <;> first | exact propext ⟨fun z => z.elim, fun ⟨_, z, _, z2, _⟩ => by cases z; cases z2⟩ | skip
      rename_i a
      show sat (match h[a]? with
        | some (.lst xs) => .ok xs h
        | _ => .bad) P = _
      cases ea : h[a]? with
      | none => exact propext ⟨fun z => z.elim, fun ⟨_, z, _, z2, _, z3, _⟩ => by cases z; cases z2; rw [ea] at z3; cases z3⟩
      | some cc =>
        cases cc with
        | lst xs => exact propext ⟨fun z => ⟨_, rfl, _, rfl, xs, ea, z⟩, fun ⟨_, z, _, z2, _, z3, q⟩ => by cases z; cases z2; rw [ea] at z3; cases z3; exact q⟩
        | dic _ => exact propext ⟨fun z => z.elim, fun ⟨_, z, _, z2, _, z3, _⟩ => by cases z; cases z2; rw [ea] at z3; cases z3⟩
        | ins _ _ => exact propext ⟨fun z => z.elim, fun ⟨_, z, _, z2, _, z3, _⟩ => by cases z; cases z2; rw [ea] at z3; cases z3⟩
/-- whole numbers taken out of an own list -/
theorem o_rem {j : Nat} {e : Ex} : osat (evS c (.rem j e) σ h) N T = ∃ xs, σ[j]? = some (.own xs) ∧ sat (evE c σ e h) fun x h1 => ∃ k, x = .int k ∧ ∃ ns, intsD xs = some ns ∧ k ∈ ns ∧ N (σ.set j (.own ((ns.erase k).map .int))) h1 := by
  show osat (match σ[j]? with
    | some (.own xs) => (evE c σ e h).out σ fun x h1 => match x, intsD xs with
      | .int k, some ns => if k ∈ ns then .nx (σ.set j (.own ((ns.erase k).map .int))) h1 else .bad
      | _, _ => .bad
    | _ => .bad) N T = _
  have no : ∀ {G : Prop}, (G → False) → (osat .bad N T = G) := fun h => propext ⟨fun z => z.elim, fun z => (h z).elim⟩
  cases e1 : σ[j]? with
  | none => exact no fun ⟨_, z, _⟩ => nomatch z
  | some s =>
    cases s with
    | own xs =>
      show osat ((evE c σ e h).out σ fun x h1 => match x, intsD xs with
        | .int k, some ns => if k ∈ ns then .nx (σ.set j (.own ((ns.erase k).map .int))) h1 else .bad
        | _, _ => .bad) N T = _
      rw [o_out]
      have e2 : (sat (evE c σ e h) fun x h1 => osat (match x, intsD xs with
        | .int k, some ns => if k ∈ ns then .nx (σ.set j (.own ((ns.erase k).map .int))) h1 else .bad
        | _, _ => .bad) N T) = sat (evE c σ e h) fun x h1 => ∃ k, x = .int k ∧ ∃ ns, intsD xs = some ns ∧ k ∈ ns ∧ N (σ.set j (.own ((ns.erase k).map .int))) h1 := by
        congr 1; funext x h1
        cases ei : intsD xs with
        | none => cases x <;> exact no fun ⟨_, _, _, z, _⟩ => nomatch z
        | some ns =>
          cases x <;> first | exact no (fun ⟨_, z, _⟩ => nomatch z) | skip
          rename_i k
          show osat (if k ∈ ns then .nx (σ.set j (.own ((ns.erase k).map .int))) h1 else .bad) N T = _
          by_cases q : k ∈ ns
          · rw [if_pos q]; exact propext ⟨fun z => ⟨k, rfl, ns, rfl, q, z⟩, fun ⟨_, z, _, z2, _, r⟩ => by cases z; cases z2; exact r⟩
          · rw [if_neg q]; exact no fun ⟨_, z, _, z2, r, _⟩ => by cases z; cases z2; exact q r
      rw [e2]
      exact propext ⟨fun z => ⟨xs, rfl, z⟩, fun ⟨_, z, q⟩ => by cases z; exact q⟩
    | no => exact no fun ⟨_, z, _⟩ => nomatch z
    | v d => exact no fun ⟨_, z, _⟩ => nomatch z
theorem onl_sat {α : Type} {p : Prop} {r : R α} {P : α → Heap → Prop} (a : p) (q : sat r P) : sat (onl p r) P := by
  unfold onl
  rw [if_pos a]
  exact q
theorem o_expr {e : Ex} : osat (evS c (.expr e) σ h) N T = sat (evE c σ e h) fun _ h1 => N σ h1 := osat_out
theorem o_retn : osat (evS c .retn σ h) N T = T .non h := rfl
theorem o_pass : osat (evS c .pass σ h) N T = N σ h := rfl
theorem o_retown {i : Nat} : osat (evS c (.retown i) σ h) N T = ∃ xs, σ[i]? = some (.own xs) ∧ T (.lst xs) h := by
  show osat (match σ[i]? with
    | some (.own xs) => .rt (.lst xs) h
    | _ => .bad) N T = _
  cases e : σ[i]? with
  | none => exact propext ⟨fun z => z.elim, fun ⟨_, z, _⟩ => nomatch z⟩
  | some s =>
    cases s with
    | own d => exact propext ⟨fun z => ⟨d, rfl, z⟩, fun ⟨_, z, q⟩ => by cases z; exact q⟩
    | no => exact propext ⟨fun z => z.elim, fun ⟨_, z, _⟩ => nomatch z⟩
    | v xs => exact propext ⟨fun z => z.elim, fun ⟨_, z, _⟩ => nomatch z⟩
theorem o_frz {i : Nat} : osat (evS c (.frz i) σ h) N T = ∃ xs, σ[i]? = some (.own xs) ∧ N (σ.set i (.v (.lst xs))) h := by
  show osat (match σ[i]? with
    | some (.own xs) => .nx (σ.set i (.v (.lst xs))) h
    | _ => .bad) N T = _
  cases e : σ[i]? with
  | none => exact propext ⟨fun z => z.elim, fun ⟨_, z, _⟩ => nomatch z⟩
  | some s =>
    cases s with
    | own d => exact propext ⟨fun z => ⟨d, rfl, z⟩, fun ⟨_, z, q⟩ => by cases z; exact q⟩
    | no => exact propext ⟨fun z => z.elim, fun ⟨_, z, _⟩ => nomatch z⟩
    | v xs => exact propext ⟨fun z => z.elim, fun ⟨_, z, _⟩ => nomatch z⟩
theorem o_asgT {tg : Tg} {e : Ex} : osat (evS c (.asg tg e) σ h) N T = sat (evE c σ e h) fun x h1 => ∃ σ1, tg.set x σ = some σ1 ∧ N σ1 h1 := by
  show osat ((evE c σ e h).out σ fun x h1 => match tg.set x σ with
    | some σ1 => .nx σ1 h1
    | none => .bad) N T = _
  rw [o_out]
  congr 1; funext x h1
  cases q : tg.set x σ with
  | none => exact propext ⟨fun z => z.elim, fun ⟨_, z, _⟩ => nomatch z⟩
  | some d => exact propext ⟨fun z => ⟨d, rfl, z⟩, fun ⟨_, z, q⟩ => by cases z; exact q⟩
/-- a cell's list gets a thing more -/
theorem o_appC {o e : Ex} : osat (evS c (.appC o e) σ h) N T = sat (evE c σ o h) fun y h1 => ∃ a ys, y = .cell a ∧ h1[a]? = some (.lst ys) ∧ sat (evE c σ e h1) fun x h2 => ∃ xs, h2[a]? = some (.lst xs) ∧ xs.length < sz ∧ N σ (h2.set a (.lst (xs ++ [x]))) := by
  show osat ((evE c σ o h).out σ fun y h1 => match y with
    | .cell a => match h1[a]? with
      | some (.lst _) => (evE c σ e h1).out σ fun x h2 => match h2[a]? with
        | some (.lst xs) => if xs.length < sz then .nx σ (h2.set a (.lst (xs ++ [x]))) else .bad
        | _ => .bad
      | _ => .bad
    | _ => .bad) N T = _
  rw [o_out]
  congr 1; funext y h1
  have no : ∀ {G : Prop}, (G → False) → (osat .bad N T = G) := fun h => propext ⟨fun z => z.elim, fun z => (h z).elim⟩
  cases y <;> first | exact no (fun ⟨_, _, z, _⟩ => nomatch z) | skip
  rename_i a
  show osat (match h1[a]? with
      | some (.lst _) => (evE c σ e h1).out σ fun x h2 => match h2[a]? with
        | some (.lst xs) => if xs.length < sz then .nx σ (h2.set a (.lst (xs ++ [x]))) else .bad
        | _ => .bad
      | _ => .bad) N T = _
  cases ea : h1[a]? with
  | none => exact no (fun ⟨_, _, z1, z2, _⟩ => by cases z1; rw [ea] at z2; cases z2)
  | some cc =>
    cases cc with
    | dic _ => exact no (fun ⟨_, _, z1, z2, _⟩ => by cases z1; rw [ea] at z2; cases z2)
    | ins _ _ => exact no (fun ⟨_, _, z1, z2, _⟩ => by cases z1; rw [ea] at z2; cases z2)
    | lst ys =>
      show osat ((evE c σ e h1).out σ fun x h2 => match h2[a]? with
        | some (.lst xs) => if xs.length < sz then .nx σ (h2.set a (.lst (xs ++ [x]))) else .bad
        | _ => .bad) N T = _
      rw [o_out]
      have e1 : (sat (evE c σ e h1) fun x h2 => osat (match h2[a]? with
        | some (.lst xs) => if xs.length < sz then .nx σ (h2.set a (.lst (xs ++ [x]))) else .bad
        | _ => .bad) N T) = sat (evE c σ e h1) fun x h2 => ∃ xs, h2[a]? = some (.lst xs) ∧ xs.length < sz ∧ N σ (h2.set a (.lst (xs ++ [x]))) := by
        congr 1; funext x h2
        cases eb : h2[a]? with
        | none => exact no (fun ⟨_, z2, _⟩ => nomatch z2)
        | some cc =>
          cases cc with
          | dic _ => exact no (fun ⟨_, z2, _⟩ => nomatch z2)
          | ins _ _ => exact no (fun ⟨_, z2, _⟩ => nomatch z2)
          | lst xs =>
            show osat (if xs.length < sz then .nx σ (h2.set a (.lst (xs ++ [x]))) else .bad) N T = _
            by_cases q : xs.length < sz
            · rw [if_pos q]; exact propext ⟨fun z => ⟨xs, rfl, q, z⟩, fun ⟨_, z, _, r⟩ => by cases z; exact r⟩
            · rw [if_neg q]; exact propext ⟨fun z => z.elim, fun ⟨_, z, r, _⟩ => by cases z; exact (q r).elim⟩
      rw [e1]
      exact propext ⟨fun z => ⟨a, ys, rfl, ea, z⟩, fun ⟨_, _, z1, z2, z3⟩ => by cases z1; exact z3⟩
theorem e_neg {a : Ex} : sat (evE c σ (.neg a) h) P = sat (evE c σ a h) fun x h1 => ∃ i, x = .int i ∧ P (.int (-i)) h1 := by
  show sat ((evE c σ a h).bind fun x h1 => match x with
    | .int i => .ok (.int (-i)) h1
    | _ => .bad) P = _
  rw [s_bind]
  congr 1; funext x h1
  cases x <;> first | exact propext ⟨fun z => z.elim, fun ⟨_, z, _⟩ => nomatch z⟩ | exact propext ⟨fun z => ⟨_, rfl, z⟩, fun ⟨_, z, q⟩ => by cases z; exact q⟩
theorem e_kon {x : Tx} {d : D} : sat (evE c σ (.kon x d) h) P = P d h := rfl
theorem e_lset {a : Ex} : sat (evE c σ (.lset a) h) P = sat (evE c σ a h) fun x h1 => ∃ z, bLset (rd h1 x) = some z ∧ P z h1 := by
  show sat ((evE c σ a h).bind fun x h1 => .of h1 (bLset (rd h1 x))) P = _
  simp only [s_bind, s_of]
theorem e_chain {o o' : Cm} {a b e : Ex} : sat (evE c σ (.chain o o' a b e) h) P = sat (evE c σ a h) fun x h1 => sat (evE c σ b h1) fun y h2 => ∃ k, cmp o x y = some k ∧ if k = true then (sat (evE c σ e h2) fun z h4 => ∃ k, cmp o' y z = some k ∧ P (.bl k) h4) else P (.bl false) h2 := by
  show sat ((evE c σ a h).bind fun x h1 => (evE c σ b h1).bind fun y h2 => (R.of h2 (cmp o x y)).bind fun k h3 => match k with
    | false => .ok (.bl false) h3
    | true => (evE c σ e h3).bind fun z h4 => .of h4 ((cmp o' y z).map .bl)) P = _
  simp only [s_bind, s_of]
  congr 1; funext x h1; congr 1; funext y h2; congr 1; funext k; congr 1
  cases k with
  | false => rw [if_ff]; rfl
  | true =>
    rw [if_tt]
    simp only [s_bind, s_of, Option.map_eq_some_iff]
    congr 1; funext z h4
    exact propext ⟨fun ⟨_, ⟨k, e, rfl⟩, q⟩ => ⟨k, e, q⟩, fun ⟨k, e, q⟩ => ⟨_, ⟨k, e, rfl⟩, q⟩⟩
theorem o_asgTu {is : List Nat} {e : Ex} : osat (evS c (.asg (.tu is) e) σ h) N T = sat (evE c σ e h) fun x h1 => ∃ ds, x = .tup ds ∧ ∃ σ1, setAll is ds σ = some σ1 ∧ N σ1 h1 := by
  rw [o_asgT]
  congr 1; funext x h1
  by_cases q : ∃ ds, x = .tup ds
  · obtain ⟨ds, rfl⟩ := q
    exact propext ⟨fun z => ⟨ds, rfl, z⟩, fun ⟨_, z, q⟩ => by cases z; exact q⟩
  · refine propext ⟨fun ⟨_, z, _⟩ => ?_, fun ⟨_, z, _⟩ => (q ⟨_, z⟩).elim⟩
    cases x <;> first | exact (q ⟨_, rfl⟩).elim | exact nomatch (show none = some _ from z)
/-- a comprehension: I tells what holds behind so many turns, of the list so far -/
theorem e_compG {tg : Tg} {it : It} {el : Ex} (q : sat (evI c σ it h) fun xs h1 => ∃ I : Nat → List D → Heap → Prop, I 0 [] h1 ∧
    (∀ (j : Nat) x acc h, xs[j]? = some x → acc.length = j → I j acc h → live σ h xs it ∧ ∃ σ1, tg.set x (wipe σ tg.slots) = some σ1 ∧ sat (evE c σ1 el h) fun y h2 => I (j + 1) (acc ++ [y]) h2) ∧
    (∀ acc h, acc.length = xs.length → I xs.length acc h → live σ h xs it ∧ acc.length ≤ sz ∧ P (.lst acc) h)) : sat (evE c σ (.comp tg it el) h) P := by
  show sat ((evI c σ it h).bind fun xs h1 => (compL (fun x h => onl (live σ h xs it) ((R.of h (tg.set x (wipe σ tg.slots))).bind fun σ' h => (evE c σ' el h).bind fun y h => .ok (some y) h)) xs h1).bind fun ys h2 => onl (live σ h2 xs it) (if ys.length ≤ sz then .ok (.lst ys) h2 else .bad)) P
  rw [s_bind]
  refine q.mono fun xs h1 ⟨I, h0, hs, hP⟩ => ?_
  rw [s_bind]
  have := comp_sat (f := fun x h => onl (live σ h xs it) ((R.of h (tg.set x (wipe σ tg.slots))).bind fun σ' h => (evE c σ' el h).bind fun y h => .ok (some y) h)) (P := fun acc h => ∃ ys, acc = ys.map some ∧ ys.length = xs.length ∧ I xs.length ys h) (fun j acc h => ∃ ys, acc = ys.map some ∧ ys.length = j ∧ I j ys h) xs 0 [] h1 ⟨[], rfl, rfl, h0⟩
    (fun j x acc h ex ⟨ys, ea, el, hI⟩ => by
      rw [Nat.zero_add] at el hI
      obtain ⟨lv, σ1, e1, q1⟩ := hs j x ys h ex el hI
      refine onl_sat lv ?_
      rw [e1]
      show sat (R.bind (evE c σ1 _ h) fun y h => .ok (some y) h) _
      rw [s_bind]
      refine q1.mono fun y h2 q2 => ⟨ys ++ [y], by rw [ea, List.map_append]; rfl, by rw [List.length_append, el, Nat.zero_add]; rfl, by rw [Nat.zero_add]; exact q2⟩)
    (fun acc h hI => by rw [Nat.zero_add] at hI; exact hI)
  refine this.mono fun ys h2 ⟨zs, ez, ys', e', el, hI⟩ => ?_
  rw [List.nil_append] at e'
  rw [e'] at ez
  have ez : ys = ys' := by rw [ez]; simp
  subst ez
  obtain ⟨lv, l, r⟩ := hP ys h2 el hI
  refine onl_sat lv ?_
  show sat (if ys.length ≤ sz then .ok (.lst ys) h2 else .bad) P
  rw [if_pos l]
  exact r
theorem e_comp {tg : Tg} {it : It} {el : Ex} (q : sat (evI c σ it h) fun xs h1 => ∃ I : Nat → List D → Heap → Prop, I 0 [] h1 ∧
    (∀ (j : Nat) x acc h, xs[j]? = some x → acc.length = j → I j acc h → ∃ σ1, tg.set x (wipe σ tg.slots) = some σ1 ∧ sat (evE c σ1 el h) fun y h2 => I (j + 1) (acc ++ [y]) h2) ∧
    (∀ acc h, acc.length = xs.length → I xs.length acc h → acc.length ≤ sz ∧ P (.lst acc) h)) (lv : ∀ h xs, live σ h xs it := by intros; trivial) : sat (evE c σ (.comp tg it el) h) P :=
  e_compG (q.mono fun xs h1 ⟨I, a, b, d⟩ => ⟨I, a, fun j x acc h e1 e2 e3 => ⟨lv h xs, b j x acc h e1 e2 e3⟩, fun acc h e1 e2 => ⟨lv h xs, d acc h e1 e2⟩⟩)
/-- .. with a question -/
theorem e_compIfG {tg : Tg} {it : It} {cn el : Ex} (q : sat (evI c σ it h) fun xs h1 => ∃ I : Nat → List D → Heap → Prop, I 0 [] h1 ∧
    (∀ (j : Nat) x acc h, xs[j]? = some x → acc.length ≤ j → I j acc h → live σ h xs it ∧ ∃ σ1, tg.set x (wipe σ tg.slots) = some σ1 ∧ sat (evE c σ1 cn h) fun b h2 => ∃ k, truth b = some k ∧ if k = true then (sat (evE c σ1 el h2) fun y h3 => I (j + 1) (acc ++ [y]) h3) else I (j + 1) acc h2) ∧
    (∀ acc h, acc.length ≤ xs.length → I xs.length acc h → live σ h xs it ∧ acc.length ≤ sz ∧ P (.lst acc) h)) : sat (evE c σ (.compIf tg it cn el) h) P := by
  show sat ((evI c σ it h).bind fun xs h1 => (compL (fun x h => onl (live σ h xs it) ((R.of h (tg.set x (wipe σ tg.slots))).bind fun σ' h => (evE c σ' cn h).bind fun b h => (R.of h (truth b)).bind fun k h => match k with
    | true => (evE c σ' el h).bind fun y h => .ok (some y) h
    | false => .ok none h)) xs h1).bind fun ys h2 => onl (live σ h2 xs it) (if ys.length ≤ sz then .ok (.lst ys) h2 else .bad)) P
  rw [s_bind]
  refine q.mono fun xs h1 ⟨I, h0, hs, hP⟩ => ?_
  rw [s_bind]
  have := comp_sat (f := fun x h => onl (live σ h xs it) ((R.of h (tg.set x (wipe σ tg.slots))).bind fun σ' h => (evE c σ' cn h).bind fun b h => (R.of h (truth b)).bind fun k h => match k with
    | true => (evE c σ' el h).bind fun y h => .ok (some y) h
    | false => .ok none h)) (P := fun acc h => (acc.filterMap id).length ≤ xs.length ∧ I xs.length (acc.filterMap id) h) (fun j acc h => (acc.filterMap id).length ≤ j ∧ I j (acc.filterMap id) h) xs 0 [] h1 ⟨Nat.le_refl _, h0⟩
    (fun j x acc h ex ⟨el, hI⟩ => by
      rw [Nat.zero_add] at el hI
      obtain ⟨lv, σ1, e1, q1⟩ := hs j x (acc.filterMap id) h ex el hI
      refine onl_sat lv ?_
      rw [e1]
      show sat (R.bind (evE c σ1 _ h) fun b h => (R.of h (truth b)).bind fun k h => match k with
        | true => (evE c σ1 _ h).bind fun y h => .ok (some y) h
        | false => .ok none h) _
      rw [s_bind]
      refine q1.mono fun b h2 ⟨k, ek, q2⟩ => ?_
      rw [ek]
      cases k with
      | false =>
        rw [if_ff] at q2
        refine ⟨?_, ?_⟩
        · rw [List.filterMap_append, List.length_append, Nat.zero_add]
          show _ + 0 ≤ _
          omega
        · rw [List.filterMap_append, Nat.zero_add]
          show I _ (_ ++ []) _
          rw [List.append_nil]; exact q2
      | true =>
        rw [if_tt] at q2
        show sat (R.bind (evE c σ1 _ h2) fun y h => .ok (some y) h) _
        rw [s_bind]
        refine q2.mono fun y h3 q3 => ⟨?_, ?_⟩
        · rw [List.filterMap_append, List.length_append, Nat.zero_add]
          show _ + 1 ≤ _
          omega
        · rw [List.filterMap_append, Nat.zero_add]; exact q3)
    (fun acc h hI => by rw [Nat.zero_add] at hI; exact hI)
  refine this.mono fun ys h2 ⟨zs, ez, el, hI⟩ => ?_
  rw [List.nil_append, ← ez] at el hI
  obtain ⟨lv, l, r⟩ := hP ys h2 el hI
  refine onl_sat lv ?_
  show sat (if ys.length ≤ sz then .ok (.lst ys) h2 else .bad) P
  rw [if_pos l]
  exact r
theorem e_compIf {tg : Tg} {it : It} {cn el : Ex} (q : sat (evI c σ it h) fun xs h1 => ∃ I : Nat → List D → Heap → Prop, I 0 [] h1 ∧
    (∀ (j : Nat) x acc h, xs[j]? = some x → acc.length ≤ j → I j acc h → ∃ σ1, tg.set x (wipe σ tg.slots) = some σ1 ∧ sat (evE c σ1 cn h) fun b h2 => ∃ k, truth b = some k ∧ if k = true then (sat (evE c σ1 el h2) fun y h3 => I (j + 1) (acc ++ [y]) h3) else I (j + 1) acc h2) ∧
    (∀ acc h, acc.length ≤ xs.length → I xs.length acc h → acc.length ≤ sz ∧ P (.lst acc) h)) (lv : ∀ h xs, live σ h xs it := by intros; trivial) : sat (evE c σ (.compIf tg it cn el) h) P :=
  e_compIfG (q.mono fun xs h1 ⟨I, a, b, d⟩ => ⟨I, a, fun j x acc h e1 e2 e3 => ⟨lv h xs, b j x acc h e1 e2 e3⟩, fun acc h e1 e2 => ⟨lv h xs, d acc h e1 e2⟩⟩)
/-- a walk through a row -/
theorem o_for {tg : Tg} {it : It} {b : Ss} (q : sat (evI c σ it h) fun xs h1 => ∃ I : Nat → Fr → Heap → Prop, I 0 σ h1 ∧
    (∀ (j : Nat) x σ h, xs[j]? = some x → I j σ h → ∃ σ1, tg.set x σ = some σ1 ∧ osat (evSs c b σ1 h) (I (j + 1)) T) ∧
    (∀ σ h, I xs.length σ h → N σ h)) : osat (evS c (.for_ tg it b) σ h) N T :=
  for_sat (q.mono fun xs h1 ⟨I, h0, hs, hN⟩ => loop_sat I xs 0 σ h1 h0 (fun j x σ h ex hI => by rw [Nat.zero_add] at hI ⊢; exact hs j x σ h ex hI) (fun σ h hI => by rw [Nat.zero_add] at hI; exact hN σ h hI))
theorem o_setC {o i e : Ex} : osat (evS c (.setix o i e) σ h) N T = sat (evE c σ e h) fun x h1 => sat (evE c σ o h1) fun y h2 => sat (evE c σ i h2) fun z h3 => setC h3 y z x (N σ) := o_setix
end
end Lb.Raw
end
section
set_option Elab.async false
set_option linter.all false
set_option maxRecDepth 100000
namespace Lb
@[irreducible] def sat {α : Type} (r : R α) (P : α → Heap → Prop) : Prop := Raw.sat r P
@[irreducible] def osat (o : Out) (N : Fr → Heap → Prop) (T : D → Heap → Prop) : Prop := Raw.osat o N T
theorem sat_eq {α : Type} {r : R α} {P : α → Heap → Prop} : sat r P = Raw.sat r P := by unfold sat; rfl
theorem osat_eq {o : Out} {N : Fr → Heap → Prop} {T : D → Heap → Prop} : osat o N T = Raw.osat o N T := by unfold osat; rfl
theorem sat.mono {α : Type} {r : R α} {P Q : α → Heap → Prop} (h : sat r P) (i : ∀ a h, P a h → Q a h) : sat r Q := by
  rw [sat_eq] at h ⊢; exact h.mono i
theorem sat.get {α : Type} {r : R α} {P : α → Heap → Prop} (h : sat r P) : ∃ a h', r = .ok a h' ∧ P a h' := by
  rw [sat_eq] at h; exact h.get
theorem osat.mono {o : Out} {N N' : Fr → Heap → Prop} {T T' : D → Heap → Prop} (h : osat o N T) (i : ∀ σ h, N σ h → N' σ h) (j : ∀ d h, T d h → T' d h) : osat o N' T' := by
  rw [osat_eq] at h ⊢; exact h.mono i j
theorem call_sat {E : Env} {n f : Nat} {fd : Fd} {ds : List D} {h : Heap} {P : D → Heap → Prop} (e : E f = some fd) (hl : ds.length = fd.ps) (q : osat (evSs (callN E n) fd.body (ds.map .v ++ List.replicate (fd.n - fd.ps) .no) h) (fun _ h => P .non h) P) : sat (callN E (n + 1) f ds h) P := by
  rw [sat_eq]; rw [osat_eq] at q; exact Raw.call_sat e hl q
theorem o_cut {c : Cl} {s : S} {r : Ss} {σ : Fr} {h : Heap} {N : Fr → Heap → Prop} {T : D → Heap → Prop} (M : Fr → Heap → Prop) (a : osat (evS c s σ h) M T) (b : ∀ σ h, M σ h → osat (evSs c r σ h) N T) : osat (evSs c (.cons s r) σ h) N T := by
  rw [osat_eq] at *; simp only [osat_eq] at b; rw [Raw.o_cons]; exact a.mono b fun _ _ z => z
section
variable {c : Cl} {σ : Fr} {h : Heap} {P : D → Heap → Prop} {N : Fr → Heap → Prop} {T : D → Heap → Prop}
theorem s_ok {α : Type} {a : α} {P : α → Heap → Prop} : sat (.ok a h) P = P a h := by
  simp only [sat_eq, osat_eq]; exact Raw.s_ok
theorem s_bind {α β : Type} {r : R α} {f : α → Heap → R β} {P : β → Heap → Prop} : sat (r.bind f) P = sat r fun a h => sat (f a h) P := by
  simp only [sat_eq, osat_eq]; exact Raw.s_bind
theorem s_of {α : Type} {o : Option α} {P : α → Heap → Prop} : sat (R.of h o) P = ∃ a, o = some a ∧ P a h := by
  simp only [sat_eq, osat_eq]; exact Raw.s_of
theorem o_cons {s : S} {r : Ss} : osat (evSs c (.cons s r) σ h) N T = osat (evS c s σ h) (fun σ h => osat (evSs c r σ h) N T) T := by
  simp only [sat_eq, osat_eq]; exact Raw.o_cons
theorem o_nil : osat (evSs c .nil σ h) N T = N σ h := by
  simp only [sat_eq, osat_eq]; exact Raw.o_nil
theorem o_ite {t : Ex} {a b : Ss} : osat (evS c (.ite t a b) σ h) N T = sat (evE c σ t h) fun x h1 => ∃ k, truth x = some k ∧ if k = true then osat (evSs c a σ h1) N T else osat (evSs c b σ h1) N T := by
  simp only [sat_eq, osat_eq]; exact Raw.o_ite
theorem o_out {α : Type} {r : R α} {f : α → Heap → Out} : osat (r.out σ f) N T = sat r fun a h => osat (f a h) N T := by
  simp only [sat_eq, osat_eq]; exact Raw.o_out
theorem o_nx : osat (.nx σ h) N T = N σ h := by
  simp only [sat_eq, osat_eq]; exact Raw.o_nx
theorem o_rt {d : D} : osat (.rt d h) N T = T d h := by
  simp only [sat_eq, osat_eq]; exact Raw.o_rt
theorem o_asg {i : Nat} {e : Ex} : osat (evS c (.asg (.nm i) e) σ h) N T = sat (evE c σ e h) fun x h1 => N (σ.set i (.v x)) h1 := by
  simp only [sat_eq, osat_eq]; exact Raw.o_asg
theorem o_ret {e : Ex} : osat (evS c (.ret e) σ h) N T = sat (evE c σ e h) T := by
  simp only [sat_eq, osat_eq]; exact Raw.o_ret
theorem e_var {i : Nat} : sat (evE c σ (.var i) h) P = ∃ d, σ[i]? = some (.v d) ∧ P d h := by
  simp only [sat_eq, osat_eq]; exact Raw.e_var
theorem e_peek {i : Nat} : sat (evE c σ (.peek i) h) P = ∃ xs, σ[i]? = some (.own xs) ∧ P (.lst xs) h := by
  simp only [sat_eq, osat_eq]; exact Raw.e_peek
theorem e_lit {d : D} : sat (evE c σ (.lit d) h) P = P d h := by
  simp only [sat_eq, osat_eq]; exact Raw.e_lit
theorem e_bin {o : Op} {a b : Ex} : sat (evE c σ (.bin o a b) h) P = sat (evE c σ a h) fun x h1 => sat (evE c σ b h1) fun y h2 => ∃ z, bin o (rd h2 x) (rd h2 y) = some z ∧ P z h2 := by
  simp only [sat_eq, osat_eq]; exact Raw.e_bin
theorem e_cmp {o : Cm} {a b : Ex} : sat (evE c σ (.cmp o a b) h) P = sat (evE c σ a h) fun x h1 => sat (evE c σ b h1) fun y h2 => ∃ k, cmp o (rd h2 x) (rd h2 y) = some k ∧ P (.bl k) h2 := by
  simp only [sat_eq, osat_eq]; exact Raw.e_cmp
theorem e_not {a : Ex} : sat (evE c σ (.not a) h) P = sat (evE c σ a h) fun x h1 => ∃ b, x = .bl b ∧ P (.bl (!b)) h1 := by
  simp only [sat_eq, osat_eq]; exact Raw.e_not
theorem e_and {a b : Ex} : sat (evE c σ (.and a b) h) P = sat (evE c σ a h) fun x h1 => ∃ k, x = .bl k ∧ if k = true then sat (evE c σ b h1) P else P (.bl false) h1 := by
  simp only [sat_eq, osat_eq]; exact Raw.e_and
theorem e_or {a b : Ex} : sat (evE c σ (.or a b) h) P = sat (evE c σ a h) fun x h1 => ∃ k, x = .bl k ∧ if k = true then P (.bl true) h1 else sat (evE c σ b h1) P := by
  simp only [sat_eq, osat_eq]; exact Raw.e_or
theorem e_isk {n : Bool} {a : Ex} {k : Kc} : sat (evE c σ (.isk n a k) h) P = sat (evE c σ a h) fun x h1 => ∃ b, isk k x = some b ∧ P (.bl (b != n)) h1 := by
  simp only [sat_eq, osat_eq]; exact Raw.e_isk
theorem e_ix {a i : Ex} : sat (evE c σ (.ix a i) h) P = sat (evE c σ a h) fun x h1 => sat (evE c σ i h1) fun y h2 => ∃ z, item (rd h2 x) y = some z ∧ P z h2 := by
  simp only [sat_eq, osat_eq]; exact Raw.e_ix
theorem p_no {P : Option Int → Heap → Prop} : sat (evP c σ .no h) P = P none h := by
  simp only [sat_eq, osat_eq]; exact Raw.p_no
theorem p_at {a : Ex} {P : Option Int → Heap → Prop} : sat (evP c σ (.at a) h) P = sat (evE c σ a h) fun x h1 => ∃ i, x = .int i ∧ P (some i) h1 := by
  simp only [sat_eq, osat_eq]; exact Raw.p_at
theorem e_slice {a : Ex} {lo hi : Po} : sat (evE c σ (.slice a lo hi) h) P = sat (evE c σ a h) fun x h1 => sat (evP c σ lo h1) fun y h2 => sat (evP c σ hi h2) fun z h3 => ∃ w, slice y z (rd h3 x) = some w ∧ P w h3 := by
  simp only [sat_eq, osat_eq]; exact Raw.e_slice
theorem e_rev {a : Ex} : sat (evE c σ (.rev a) h) P = sat (evE c σ a h) fun x h1 => ∃ w, rev (rd h1 x) = some w ∧ P w h1 := by
  simp only [sat_eq, osat_eq]; exact Raw.e_rev
theorem es_nil {P : List D → Heap → Prop} : sat (evEs c σ .nil h) P = P [] h := by
  simp only [sat_eq, osat_eq]; exact Raw.es_nil
theorem es_cons {e : Ex} {es : Exs} {P : List D → Heap → Prop} : sat (evEs c σ (.cons e es) h) P = sat (evE c σ e h) fun x h1 => sat (evEs c σ es h1) fun xs h2 => P (x :: xs) h2 := by
  simp only [sat_eq, osat_eq]; exact Raw.es_cons
theorem e_tup {es : Exs} : sat (evE c σ (.tup es) h) P = sat (evEs c σ es h) fun ds h1 => ds.length ≤ sz ∧ P (.tup ds) h1 := by
  simp only [sat_eq, osat_eq]; exact Raw.e_tup
theorem e_lst {es : Exs} : sat (evE c σ (.lst es) h) P = sat (evEs c σ es h) fun ds h1 => ds.length ≤ sz ∧ P (.lst ds) h1 := by
  simp only [sat_eq, osat_eq]; exact Raw.e_lst
theorem e_call {f : Nat} {es : Exs} : sat (evE c σ (.call f es) h) P = sat (evEs c σ es h) fun ds h1 => sat (c f ds h1) P := by
  simp only [sat_eq, osat_eq]; exact Raw.e_call
theorem e_blt {b : B} {es : Exs} : sat (evE c σ (.blt b es) h) P = sat (evEs c σ es h) fun ds h1 => ∃ z, blt b (ds.map (rd h1)) = some z ∧ P z h1 := by
  simp only [sat_eq, osat_eq]; exact Raw.e_blt
theorem e_isi {a : Ex} {t : Ty} : sat (evE c σ (.isi a t) h) P = sat (evE c σ a h) fun x h1 => ∃ k, isTy (rd h1 x) t = some k ∧ P (.bl k) h1 := by
  simp only [sat_eq, osat_eq]; exact Raw.e_isi
theorem e_sset {a : Ex} : sat (evE c σ (.sset a) h) P = sat (evE c σ a h) fun x h1 => ∃ z, bSset (rd h1 x) = some z ∧ P z h1 := by
  simp only [sat_eq, osat_eq]; exact Raw.e_sset
theorem e_sumL {a : Ex} : sat (evE c σ (.sumL a) h) P = sat (evE c σ a h) fun x h1 => ∃ z, bSumL (rd h1 x) = some z ∧ P z h1 := by
  simp only [sat_eq, osat_eq]; exact Raw.e_sumL
theorem e_mth {m : M} {o : Ex} {es : Exs} : sat (evE c σ (.mth m o es) h) P = sat (evE c σ o h) fun x h1 => ∃ t, x = .str t ∧ sat (evEs c σ es h1) fun ds h2 => ∃ z, mth m (.str t) (ds.map (rd h2)) = some z ∧ P z h2 := by
  simp only [sat_eq, osat_eq]; exact Raw.e_mth
theorem e_mk {e : Ex} : sat (evE c σ (.mk e) h) P = sat (evE c σ e h) fun x h1 => ∃ xs, x = .lst xs ∧ P (.cell h1.length) (h1 ++ [.lst xs]) := by
  simp only [sat_eq, osat_eq]; exact Raw.e_mk
theorem o_own {i : Nat} {e : Ex} : osat (evS c (.own i e) σ h) N T = sat (evE c σ e h) fun x h1 => ∃ xs, x = .lst xs ∧ N (σ.set i (.own xs)) h1 := by
  simp only [sat_eq, osat_eq]; exact Raw.o_own
theorem o_cel {i : Nat} : osat (evS c (.cel i) σ h) N T = ∃ xs, σ[i]? = some (.own xs) ∧ N (σ.set i (.v (.cell h.length))) (h ++ [.lst xs]) := by
  simp only [sat_eq, osat_eq]; exact Raw.o_cel
theorem o_app {j : Nat} {e : Ex} : osat (evS c (.app j e) σ h) N T = ∃ xs, σ[j]? = some (.own xs) ∧ sat (evE c σ e h) fun x h1 => xs.length < sz ∧ N (σ.set j (.own (xs ++ [x]))) h1 := by
  simp only [sat_eq, osat_eq]; exact Raw.o_app
theorem o_setix {o i e : Ex} : osat (evS c (.setix o i e) σ h) N T = sat (evE c σ e h) fun x h1 => sat (evE c σ o h1) fun y h2 => sat (evE c σ i h2) fun z h3 => ∃ a k xs j, y = .cell a ∧ z = .int k ∧ h3[a]? = some (.lst xs) ∧ ixN xs.length k = some j ∧ N σ (h3.set a (.lst (xs.set j x))) := by
  simp only [sat_eq, osat_eq]; exact Raw.o_setix
theorem i_seq {e : Ex} {P : List D → Heap → Prop} : sat (evI c σ (.seq e) h) P = sat (evE c σ e h) fun x h1 => ∃ xs, walk x = some xs ∧ P xs h1 := by
  simp only [sat_eq, osat_eq]; exact Raw.i_seq
theorem i_rng1 {a : Ex} {P : List D → Heap → Prop} : sat (evI c σ (.rng1 a) h) P = sat (evE c σ a h) fun x h1 => ∃ i, x = .int i ∧ rngOk i = true ∧ P (rngL 0 i.toNat) h1 := by
  simp only [sat_eq, osat_eq]; exact Raw.i_rng1
theorem i_rng2 {a b : Ex} {P : List D → Heap → Prop} : sat (evI c σ (.rng2 a b) h) P = sat (evE c σ a h) fun x h1 => sat (evE c σ b h1) fun y h2 => ∃ i j, x = .int i ∧ y = .int j ∧ rngOk i = true ∧ rngOk j = true ∧ P (rngL i (j - i).toNat) h2 := by
  simp only [sat_eq, osat_eq]; exact Raw.i_rng2
theorem i_own {j : Nat} {P : List D → Heap → Prop} : sat (evI c σ (.own j) h) P = ∃ xs, σ[j]? = some (.own xs) ∧ P xs h := by
  simp only [sat_eq, osat_eq]; exact Raw.i_own
theorem i_cel {j : Nat} {P : List D → Heap → Prop} : sat (evI c σ (.cel j) h) P = ∃ d, σ[j]? = some (.v d) ∧ ∃ a, d = .cell a ∧ ∃ xs, h[a]? = some (.lst xs) ∧ P xs h := by
  simp only [sat_eq, osat_eq]; exact Raw.i_cel
theorem o_rem {j : Nat} {e : Ex} : osat (evS c (.rem j e) σ h) N T = ∃ xs, σ[j]? = some (.own xs) ∧ sat (evE c σ e h) fun x h1 => ∃ k, x = .int k ∧ ∃ ns, intsD xs = some ns ∧ k ∈ ns ∧ N (σ.set j (.own ((ns.erase k).map .int))) h1 := by
  simp only [sat_eq, osat_eq]; exact Raw.o_rem
theorem o_expr {e : Ex} : osat (evS c (.expr e) σ h) N T = sat (evE c σ e h) fun _ h1 => N σ h1 := by
  simp only [sat_eq, osat_eq]; exact Raw.o_expr
theorem o_retn : osat (evS c .retn σ h) N T = T .non h := by
  simp only [sat_eq, osat_eq]; exact Raw.o_retn
theorem o_pass : osat (evS c .pass σ h) N T = N σ h := by
  simp only [sat_eq, osat_eq]; exact Raw.o_pass
theorem o_retown {i : Nat} : osat (evS c (.retown i) σ h) N T = ∃ xs, σ[i]? = some (.own xs) ∧ T (.lst xs) h := by
  simp only [sat_eq, osat_eq]; exact Raw.o_retown
theorem o_frz {i : Nat} : osat (evS c (.frz i) σ h) N T = ∃ xs, σ[i]? = some (.own xs) ∧ N (σ.set i (.v (.lst xs))) h := by
  simp only [sat_eq, osat_eq]; exact Raw.o_frz
theorem o_asgT {tg : Tg} {e : Ex} : osat (evS c (.asg tg e) σ h) N T = sat (evE c σ e h) fun x h1 => ∃ σ1, tg.set x σ = some σ1 ∧ N σ1 h1 := by
  simp only [sat_eq, osat_eq]; exact Raw.o_asgT
theorem o_appC {o e : Ex} : osat (evS c (.appC o e) σ h) N T = sat (evE c σ o h) fun y h1 => ∃ a ys, y = .cell a ∧ h1[a]? = some (.lst ys) ∧ sat (evE c σ e h1) fun x h2 => ∃ xs, h2[a]? = some (.lst xs) ∧ xs.length < sz ∧ N σ (h2.set a (.lst (xs ++ [x]))) := by
  simp only [sat_eq, osat_eq]; exact Raw.o_appC
theorem e_neg {a : Ex} : sat (evE c σ (.neg a) h) P = sat (evE c σ a h) fun x h1 => ∃ i, x = .int i ∧ P (.int (-i)) h1 := by
  simp only [sat_eq, osat_eq]; exact Raw.e_neg
theorem e_kon {x : Tx} {d : D} : sat (evE c σ (.kon x d) h) P = P d h := by
  simp only [sat_eq, osat_eq]; exact Raw.e_kon
theorem e_lset {a : Ex} : sat (evE c σ (.lset a) h) P = sat (evE c σ a h) fun x h1 => ∃ z, bLset (rd h1 x) = some z ∧ P z h1 := by
  simp only [sat_eq, osat_eq]; exact Raw.e_lset
theorem e_chain {o o' : Cm} {a b e : Ex} : sat (evE c σ (.chain o o' a b e) h) P = sat (evE c σ a h) fun x h1 => sat (evE c σ b h1) fun y h2 => ∃ k, cmp o x y = some k ∧ if k = true then (sat (evE c σ e h2) fun z h4 => ∃ k, cmp o' y z = some k ∧ P (.bl k) h4) else P (.bl false) h2 := by
  simp only [sat_eq, osat_eq]; exact Raw.e_chain
theorem o_asgTu {is : List Nat} {e : Ex} : osat (evS c (.asg (.tu is) e) σ h) N T = sat (evE c σ e h) fun x h1 => ∃ ds, x = .tup ds ∧ ∃ σ1, setAll is ds σ = some σ1 ∧ N σ1 h1 := by
  simp only [sat_eq, osat_eq]; exact Raw.o_asgTu
theorem o_setC {o i e : Ex} : osat (evS c (.setix o i e) σ h) N T = sat (evE c σ e h) fun x h1 => sat (evE c σ o h1) fun y h2 => sat (evE c σ i h2) fun z h3 => setC h3 y z x (N σ) := by
  simp only [sat_eq, osat_eq]; exact Raw.o_setC
theorem e_comp {tg : Tg} {it : It} {el : Ex} (q : sat (evI c σ it h) fun xs h1 => ∃ I : Nat → List D → Heap → Prop, I 0 [] h1 ∧
    (∀ (j : Nat) x acc h, xs[j]? = some x → acc.length = j → I j acc h → ∃ σ1, tg.set x (wipe σ tg.slots) = some σ1 ∧ sat (evE c σ1 el h) fun y h2 => I (j + 1) (acc ++ [y]) h2) ∧
    (∀ acc h, acc.length = xs.length → I xs.length acc h → acc.length ≤ sz ∧ P (.lst acc) h)) (lv : ∀ h xs, live σ h xs it := by intros; trivial) : sat (evE c σ (.comp tg it el) h) P := by
  simp only [sat_eq, osat_eq] at q ⊢; exact Raw.e_comp q lv
theorem e_compIf {tg : Tg} {it : It} {cn el : Ex} (q : sat (evI c σ it h) fun xs h1 => ∃ I : Nat → List D → Heap → Prop, I 0 [] h1 ∧
    (∀ (j : Nat) x acc h, xs[j]? = some x → acc.length ≤ j → I j acc h → ∃ σ1, tg.set x (wipe σ tg.slots) = some σ1 ∧ sat (evE c σ1 cn h) fun b h2 => ∃ k, truth b = some k ∧ if k = true then (sat (evE c σ1 el h2) fun y h3 => I (j + 1) (acc ++ [y]) h3) else I (j + 1) acc h2) ∧
    (∀ acc h, acc.length ≤ xs.length → I xs.length acc h → acc.length ≤ sz ∧ P (.lst acc) h)) (lv : ∀ h xs, live σ h xs it := by intros; trivial) : sat (evE c σ (.compIf tg it cn el) h) P := by
  simp only [sat_eq, osat_eq] at q ⊢; exact Raw.e_compIf q lv
theorem e_compG {tg : Tg} {it : It} {el : Ex} (q : sat (evI c σ it h) fun xs h1 => ∃ I : Nat → List D → Heap → Prop, I 0 [] h1 ∧
    (∀ (j : Nat) x acc h, xs[j]? = some x → acc.length = j → I j acc h → live σ h xs it ∧ ∃ σ1, tg.set x (wipe σ tg.slots) = some σ1 ∧ sat (evE c σ1 el h) fun y h2 => I (j + 1) (acc ++ [y]) h2) ∧
    (∀ acc h, acc.length = xs.length → I xs.length acc h → live σ h xs it ∧ acc.length ≤ sz ∧ P (.lst acc) h)) : sat (evE c σ (.comp tg it el) h) P := by
  simp only [sat_eq, osat_eq] at q ⊢; exact Raw.e_compG q
theorem e_compIfG {tg : Tg} {it : It} {cn el : Ex} (q : sat (evI c σ it h) fun xs h1 => ∃ I : Nat → List D → Heap → Prop, I 0 [] h1 ∧
    (∀ (j : Nat) x acc h, xs[j]? = some x → acc.length ≤ j → I j acc h → live σ h xs it ∧ ∃ σ1, tg.set x (wipe σ tg.slots) = some σ1 ∧ sat (evE c σ1 cn h) fun b h2 => ∃ k, truth b = some k ∧ if k = true then (sat (evE c σ1 el h2) fun y h3 => I (j + 1) (acc ++ [y]) h3) else I (j + 1) acc h2) ∧
    (∀ acc h, acc.length ≤ xs.length → I xs.length acc h → live σ h xs it ∧ acc.length ≤ sz ∧ P (.lst acc) h)) : sat (evE c σ (.compIf tg it cn el) h) P := by
  simp only [sat_eq, osat_eq] at q ⊢; exact Raw.e_compIfG q
theorem o_for {tg : Tg} {it : It} {b : Ss} (q : sat (evI c σ it h) fun xs h1 => ∃ I : Nat → Fr → Heap → Prop, I 0 σ h1 ∧
    (∀ (j : Nat) x σ h, xs[j]? = some x → I j σ h → ∃ σ1, tg.set x σ = some σ1 ∧ osat (evSs c b σ1 h) (I (j + 1)) T) ∧
    (∀ σ h, I xs.length σ h → N σ h)) : osat (evS c (.for_ tg it b) σ h) N T := by
  simp only [sat_eq, osat_eq] at q ⊢; exact Raw.o_for q
end
end Lb
end
section
set_option Elab.async false
set_option linter.all false
set_option maxRecDepth 100000
namespace Lb.Dr
open Lb
/-- the state of the draws -/
def Dst (a : Nat) (ns : List Int) (B : Int) (h : Heap) : Prop := ns.length ≤ 63 ∧ ∃ s1 s2, h[a]? = some (.lst [.scr ns, .int s1, .int s2]) ∧ 0 ≤ s1 ∧ s1 ≤ B
/-- nothing else of the heap has changed -/
def Dxt (a : Nat) (h h' : Heap) : Prop := h.length ≤ h'.length ∧ ∀ b, b ≠ a → b < h.length → h'[b]? = h[b]?
theorem Dxt.refl {a : Nat} {h : Heap} : Dxt a h h := ⟨Nat.le_refl _, fun _ _ _ => rfl⟩
theorem Dxt.trans {a : Nat} {h h' h'' : Heap} (x : Dxt a h h') (y : Dxt a h' h'') : Dxt a h h'' :=
  ⟨Nat.le_trans x.1 y.1, fun b n l => (y.2 b n (Nat.lt_of_lt_of_le l x.1)).trans (x.2 b n l)⟩
theorem Dxt.set {a : Nat} {h : Heap} {c : Cell} : Dxt a h (h.set a c) := ⟨by simp, fun b n l => by rw [List.getElem?_set_ne (Ne.symm n)]⟩
theorem Dxt.app {a : Nat} {h : Heap} {c : Cell} : Dxt a h (h ++ [c]) := ⟨by simp, fun b n l => by rw [List.getElem?_append_left l]⟩
theorem Dxt.get {a b : Nat} {h h' : Heap} {c : Cell} (x : Dxt a h h') (n : b ≠ a) (e : h[b]? = some c) : h'[b]? = some c :=
  (x.2 b n (by rw [List.getElem?_eq_some_iff] at e; exact e.1)).trans e
theorem Dst.mono {a : Nat} {ns : List Int} {B B' : Int} {h : Heap} (s : Dst a ns B h) (l : B ≤ B') : Dst a ns B' h := by
  obtain ⟨x, s1, s2, y, z, w⟩ := s
  exact ⟨x, s1, s2, y, z, by omega⟩
theorem set_at {a : Nat} {h : Heap} {c d : Cell} (e : h[a]? = some c) : (h.set a d)[a]? = some d := by
  rw [List.getElem?_eq_some_iff] at e
  rw [List.getElem?_set_self e.1]
theorem setix_at {a : Nat} {xs : List D} {k : Int} {x : D} {h : Heap} {P : Heap → Prop} (ea : h[a]? = some (.lst xs)) (j : Nat) (hj : ixN xs.length k = some j) (q : ∀ h', h'[a]? = some (.lst (xs.set j x)) → Dxt a h h' → P h') : setC h (.cell a) (.int k) x P :=
  ⟨a, k, xs, j, rfl, rfl, ea, hj, q _ (set_at ea) Dxt.set⟩
def fd_cell : Fd := ⟨2, 4, (.cons (.ite (.cmp .lt (.var 1) (.blt .len (.cons (.var 0) .nil)))
    (.cons (.ret (.ix (.var 0) (.var 1)))
    .nil)
    .nil)
    (.cons (.asg (.nm 2) (.bin .add (.bin .mul (.var 1) (.lit (.int 7919))) (.lit (.int 101))))
    (.cons (.ite (.cmp .gt (.blt .len (.cons (.var 0) .nil)) (.lit (.int 0)))
    (.cons (.asg (.nm 3) (.bin .add (.bin .fdiv (.var 1) (.blt .len (.cons (.var 0) .nil))) (.lit (.int 3))))
    (.cons (.asg (.nm 2) (.bin .add (.var 2) (.bin .mul (.bin .mod (.ix (.var 0) (.bin .mod (.var 1) (.blt .len (.cons (.var 0) .nil)))) (.lit (.int 2147483647))) (.var 3))))
    .nil))
    .nil)
    (.cons (.ret (.var 2))
    .nil))))⟩
def fd_take : Fd := ⟨2, 5, (.cons (.ite (.cmp .eq (.ix (.var 0) (.lit (.int 2))) (.lit (.int 0)))
    (.cons (.asg (.nm 3) (.call 72 (.cons (.ix (.var 0) (.lit (.int 0))) (.cons (.ix (.var 0) (.lit (.int 1))) .nil))))
    (.cons (.setix (.var 0) (.lit (.int 1)) (.bin .add (.ix (.var 0) (.lit (.int 1))) (.lit (.int 1))))
    (.cons (.ite (.cmp .lt (.var 3) (.bin .pow (.lit (.int 10)) (.lit (.int 18))))
    (.cons (.asg (.nm 4) (.bin .mod (.bin .mul (.bin .add (.bin .mod (.var 3) (.lit (.int 2147483629))) (.lit (.int 1))) (.bin .add (.bin .mul (.ix (.var 0) (.lit (.int 1))) (.ix (.var 0) (.lit (.int 1)))) (.lit (.int 48271)))) (.lit (.int 2147483647))))
    (.cons (.ret (.bin .mod (.bin .fdiv (.bin .mod (.bin .mul (.var 4) (.bin .add (.bin .add (.bin .mod (.var 4) (.lit (.int 65519))) (.ix (.var 0) (.lit (.int 1)))) (.lit (.int 2)))) (.lit (.int 2147483587))) (.lit (.int 7))) (.var 1)))
    .nil))
    .nil)
    (.cons (.setix (.var 0) (.lit (.int 2)) (.var 3))
    .nil))))
    .nil)
    (.cons (.asg (.nm 2) (.bin .mod (.ix (.var 0) (.lit (.int 2))) (.var 1)))
    (.cons (.setix (.var 0) (.lit (.int 2)) (.bin .fdiv (.ix (.var 0) (.lit (.int 2))) (.var 1)))
    (.cons (.ret (.var 2))
    .nil))))⟩
def fd_name : Fd := ⟨1, 3, (.cons (.asg (.nm 1) (.lit (.str [97, 98, 99, 100, 101, 102, 103, 104, 105, 106, 107, 108, 109, 110, 111, 112, 113, 114, 115, 116, 117, 118, 119, 120, 121, 122])))
    (.cons (.ret (.mth .join (.lit (.str [])) (.cons (.comp (.nm 2) (.rng1 (.bin .add (.lit (.int 1)) (.bin .mod (.call 73 (.cons (.var 0) (.cons (.lit (.int 9)) .nil))) (.lit (.int 6))))) (.ix (.var 1) (.call 73 (.cons (.var 0) (.cons (.lit (.int 26)) .nil))))) .nil)))
    .nil))⟩
theorem cell_sat {E : Env} (e1 : E 72 = some fd_cell) {n : Nat} {ns : List Int} {k : Int} {h : Heap} (hk : 0 ≤ k) (hl : ns.length ≤ 63) (P : D → Heap → Prop) (q : ∀ v, P (.int v) h) : sat (callN E (n + 1) 72 [.scr ns, .int k] h) P := by
  refine call_sat e1 rfl ?_
  unfold fd_cell
  simp only [o_cons, o_nil, o_ite, o_asg, o_ret, o_own, o_cel, o_app, o_setC, e_var, e_peek, e_lit, e_bin, e_cmp, e_not, e_and, e_or, e_isk, e_ix, p_no, p_at, e_slice, e_rev, e_tup, e_lst, e_call, e_blt, e_isi, e_sset, e_sumL, e_mth, e_mk, es_cons, es_nil, s_ok, s_bind, s_of, List.map_cons, List.map_nil, List.cons_append, List.nil_append, List.replicate, Nat.reduceSub, List.getElem?_cons_zero, List.getElem?_cons_succ, List.set_cons_zero, List.set_cons_succ, ex_iteo, ex_iteno, ex_some, ex_sl, ex_own, ex_map, ex_bl, ex_int, ex_str, ex_lst, if_tt, if_ff, if_dec, if_not, rd_non, rd_bl, rdd_int, rdd_str, rd_tup, rd_lst, rd_scr, b_add, b_sub, b_mul, b_fdiv, b_mod, b_pow, b_cat, b_catL, b_catT, c_lt, c_gt, c_le, c_ge, c_eq, c_ne, c_eqs, c_nes, c_eqb, c_neb, t_bl, l_str, l_lst, l_tup, l_scr, m_min, m_max, m_tup, m_lst, m_intb, m_inti, i_lst, i_tup, i_str, i_scr, at0, at1, at2, ne_eq, Int.reduceEq, Int.reduceNe, not_false_eq_true, decide_true, decide_false, Int.reduceAbs, Int.reduceLE, Int.reduceLT, Int.reduceToNat, Int.reduceAdd, Nat.reduceLT, Nat.reduceLeDiff, Nat.reducePow, Bool.and_self, Bool.true_and, true_and, and_true, List.length_cons, List.length_nil, Nat.reduceAdd, i_seq, i_rng1, i_rng2, o_expr, o_retn, o_pass, o_retown, o_frz, o_appC, e_neg, e_kon, e_lset, e_chain, e_sumL, sz, w_tup, w_lst, w_str, ex_tup, set_nil, set_cons, ty_str, ty_lst, ty_tup, ty_bool, o_asgTu, Bool.not_true, Bool.not_false, i_own, i_cel, o_rem, if_true, if_false]
  have s : (small k || small 7919) = true := by rw [show small 7919 = true from by decide, Bool.or_true]
  by_cases c : k < (ns.length : Int)
  · rw [if_pos c]
    obtain ⟨v, ev, _⟩ := atI_in hk c
    exact ⟨v, ev, q _⟩
  · rw [if_neg c]
    refine ⟨s, ?_⟩
    by_cases c2 : 0 < (ns.length : Int)
    · rw [if_pos c2]
      refine ⟨?_, by omega, ?_⟩
      · rw [Bool.and_eq_true, decide_eq_true_eq, decide_eq_true_eq]; omega
      · obtain ⟨v, ev, _⟩ := atI_in (Int.fmod_nonneg_of_pos k c2) (Int.fmod_lt_of_pos k c2)
        refine ⟨v, ev, ?_, q _⟩
        rw [small_mod (by decide) (by decide)]; rfl
    · rw [if_neg c2]; exact q _
theorem take_sat {E : Env} (e1 : E 72 = some fd_cell) (e2 : E 73 = some fd_take) {n a : Nat} {ns : List Int} {m B : Int} {h : Heap} (st : Dst a ns B h) (hB : B < 2 ^ 60) (hm : 0 < m) (hm2 : m < 1073741824) (P : D → Heap → Prop)
    (q : ∀ k h', 0 ≤ k → k < m → Dst a ns (B + 1) h' → Dxt a h h' → P (.int k) h') : sat (callN E (n + 2) 73 [.cell a, .int m] h) P := by
  obtain ⟨hl, s1, s2, ea, h0, hs⟩ := st
  refine call_sat e2 rfl ?_
  unfold fd_take
  simp only [o_cons, o_nil, o_ite, o_asg, o_ret, o_own, o_cel, o_app, o_setC, e_var, e_peek, e_lit, e_bin, e_cmp, e_not, e_and, e_or, e_isk, e_ix, p_no, p_at, e_slice, e_rev, e_tup, e_lst, e_call, e_blt, e_isi, e_sset, e_sumL, e_mth, e_mk, es_cons, es_nil, s_ok, s_bind, s_of, List.map_cons, List.map_nil, List.cons_append, List.nil_append, List.replicate, Nat.reduceSub, List.getElem?_cons_zero, List.getElem?_cons_succ, List.set_cons_zero, List.set_cons_succ, ex_iteo, ex_iteno, ex_some, ex_sl, ex_own, ex_map, ex_bl, ex_int, ex_str, ex_lst, if_tt, if_ff, if_dec, if_not, rd_non, rd_bl, rdd_int, rdd_str, rd_tup, rd_lst, rd_scr, b_add, b_sub, b_mul, b_fdiv, b_mod, b_pow, b_cat, b_catL, b_catT, c_lt, c_gt, c_le, c_ge, c_eq, c_ne, c_eqs, c_nes, c_eqb, c_neb, t_bl, l_str, l_lst, l_tup, l_scr, m_min, m_max, m_tup, m_lst, m_intb, m_inti, i_lst, i_tup, i_str, i_scr, at0, at1, at2, ne_eq, Int.reduceEq, Int.reduceNe, not_false_eq_true, decide_true, decide_false, Int.reduceAbs, Int.reduceLE, Int.reduceLT, Int.reduceToNat, Int.reduceAdd, Nat.reduceLT, Nat.reduceLeDiff, Nat.reducePow, Bool.and_self, Bool.true_and, true_and, and_true, List.length_cons, List.length_nil, Nat.reduceAdd, i_seq, i_rng1, i_rng2, o_expr, o_retn, o_pass, o_retown, o_frz, o_appC, e_neg, e_kon, e_lset, e_chain, e_sumL, sz, w_tup, w_lst, w_str, ex_tup, set_nil, set_cons, ty_str, ty_lst, ty_tup, ty_bool, o_asgTu, Bool.not_true, Bool.not_false, i_own, i_cel, o_rem, if_true, if_false]
  rw [rd_cell ea]
  have m0 : ¬ m = 0 := by omega
  have mf : (decide (m ≠ 0) && decide (m.natAbs < 1073741824)) = true := by rw [Bool.and_eq_true, decide_eq_true_eq, decide_eq_true_eq]; omega
  simp only [o_cons, o_nil, o_ite, o_asg, o_ret, o_own, o_cel, o_app, o_setC, e_var, e_peek, e_lit, e_bin, e_cmp, e_not, e_and, e_or, e_isk, e_ix, p_no, p_at, e_slice, e_rev, e_tup, e_lst, e_call, e_blt, e_isi, e_sset, e_sumL, e_mth, e_mk, es_cons, es_nil, s_ok, s_bind, s_of, List.map_cons, List.map_nil, List.cons_append, List.nil_append, List.replicate, Nat.reduceSub, List.getElem?_cons_zero, List.getElem?_cons_succ, List.set_cons_zero, List.set_cons_succ, ex_iteo, ex_iteno, ex_some, ex_sl, ex_own, ex_map, ex_bl, ex_int, ex_str, ex_lst, if_tt, if_ff, if_dec, if_not, rd_non, rd_bl, rdd_int, rdd_str, rd_tup, rd_lst, rd_scr, b_add, b_sub, b_mul, b_fdiv, b_mod, b_pow, b_cat, b_catL, b_catT, c_lt, c_gt, c_le, c_ge, c_eq, c_ne, c_eqs, c_nes, c_eqb, c_neb, t_bl, l_str, l_lst, l_tup, l_scr, m_min, m_max, m_tup, m_lst, m_intb, m_inti, i_lst, i_tup, i_str, i_scr, at0, at1, at2, ne_eq, Int.reduceEq, Int.reduceNe, not_false_eq_true, decide_true, decide_false, Int.reduceAbs, Int.reduceLE, Int.reduceLT, Int.reduceToNat, Int.reduceAdd, Nat.reduceLT, Nat.reduceLeDiff, Nat.reducePow, Bool.and_self, Bool.true_and, true_and, and_true, List.length_cons, List.length_nil, Nat.reduceAdd, i_seq, i_rng1, i_rng2, o_expr, o_retn, o_pass, o_retown, o_frz, o_appC, e_neg, e_kon, e_lset, e_chain, e_sumL, sz, w_tup, w_lst, w_str, ex_tup, set_nil, set_cons, ty_str, ty_lst, ty_tup, ty_bool, o_asgTu, Bool.not_true, Bool.not_false, i_own, i_cel, o_rem, if_true, if_false]
  by_cases c : s2 = 0
  · rw [if_pos c]
    refine cell_sat e1 h0 hl _ fun v => ?_
    simp only [o_cons, o_nil, o_ite, o_asg, o_ret, o_own, o_cel, o_app, o_setC, e_var, e_peek, e_lit, e_bin, e_cmp, e_not, e_and, e_or, e_isk, e_ix, p_no, p_at, e_slice, e_rev, e_tup, e_lst, e_call, e_blt, e_isi, e_sset, e_sumL, e_mth, e_mk, es_cons, es_nil, s_ok, s_bind, s_of, List.map_cons, List.map_nil, List.cons_append, List.nil_append, List.replicate, Nat.reduceSub, List.getElem?_cons_zero, List.getElem?_cons_succ, List.set_cons_zero, List.set_cons_succ, ex_iteo, ex_iteno, ex_some, ex_sl, ex_own, ex_map, ex_bl, ex_int, ex_str, ex_lst, if_tt, if_ff, if_dec, if_not, rd_non, rd_bl, rdd_int, rdd_str, rd_tup, rd_lst, rd_scr, b_add, b_sub, b_mul, b_fdiv, b_mod, b_pow, b_cat, b_catL, b_catT, c_lt, c_gt, c_le, c_ge, c_eq, c_ne, c_eqs, c_nes, c_eqb, c_neb, t_bl, l_str, l_lst, l_tup, l_scr, m_min, m_max, m_tup, m_lst, m_intb, m_inti, i_lst, i_tup, i_str, i_scr, at0, at1, at2, ne_eq, Int.reduceEq, Int.reduceNe, not_false_eq_true, decide_true, decide_false, Int.reduceAbs, Int.reduceLE, Int.reduceLT, Int.reduceToNat, Int.reduceAdd, Nat.reduceLT, Nat.reduceLeDiff, Nat.reducePow, Bool.and_self, Bool.true_and, true_and, and_true, List.length_cons, List.length_nil, Nat.reduceAdd, i_seq, i_rng1, i_rng2, o_expr, o_retn, o_pass, o_retown, o_frz, o_appC, e_neg, e_kon, e_lset, e_chain, e_sumL, sz, w_tup, w_lst, w_str, ex_tup, set_nil, set_cons, ty_str, ty_lst, ty_tup, ty_bool, o_asgTu, Bool.not_true, Bool.not_false, i_own, i_cel, o_rem, if_true, if_false]
    rw [rd_cell ea]
    simp only [o_cons, o_nil, o_ite, o_asg, o_ret, o_own, o_cel, o_app, o_setC, e_var, e_peek, e_lit, e_bin, e_cmp, e_not, e_and, e_or, e_isk, e_ix, p_no, p_at, e_slice, e_rev, e_tup, e_lst, e_call, e_blt, e_isi, e_sset, e_sumL, e_mth, e_mk, es_cons, es_nil, s_ok, s_bind, s_of, List.map_cons, List.map_nil, List.cons_append, List.nil_append, List.replicate, Nat.reduceSub, List.getElem?_cons_zero, List.getElem?_cons_succ, List.set_cons_zero, List.set_cons_succ, ex_iteo, ex_iteno, ex_some, ex_sl, ex_own, ex_map, ex_bl, ex_int, ex_str, ex_lst, if_tt, if_ff, if_dec, if_not, rd_non, rd_bl, rdd_int, rdd_str, rd_tup, rd_lst, rd_scr, b_add, b_sub, b_mul, b_fdiv, b_mod, b_pow, b_cat, b_catL, b_catT, c_lt, c_gt, c_le, c_ge, c_eq, c_ne, c_eqs, c_nes, c_eqb, c_neb, t_bl, l_str, l_lst, l_tup, l_scr, m_min, m_max, m_tup, m_lst, m_intb, m_inti, i_lst, i_tup, i_str, i_scr, at0, at1, at2, ne_eq, Int.reduceEq, Int.reduceNe, not_false_eq_true, decide_true, decide_false, Int.reduceAbs, Int.reduceLE, Int.reduceLT, Int.reduceToNat, Int.reduceAdd, Nat.reduceLT, Nat.reduceLeDiff, Nat.reducePow, Bool.and_self, Bool.true_and, true_and, and_true, List.length_cons, List.length_nil, Nat.reduceAdd, i_seq, i_rng1, i_rng2, o_expr, o_retn, o_pass, o_retown, o_frz, o_appC, e_neg, e_kon, e_lset, e_chain, e_sumL, sz, w_tup, w_lst, w_str, ex_tup, set_nil, set_cons, ty_str, ty_lst, ty_tup, ty_bool, o_asgTu, Bool.not_true, Bool.not_false, i_own, i_cel, o_rem, if_true, if_false]
    refine setix_at (k := 1) ea 1 rfl fun h1 ea1 x1 => ?_
    simp only [List.set_cons_zero, List.set_cons_succ] at ea1
    rw [rd_cell ea1]
    simp only [o_cons, o_nil, o_ite, o_asg, o_ret, o_own, o_cel, o_app, o_setC, e_var, e_peek, e_lit, e_bin, e_cmp, e_not, e_and, e_or, e_isk, e_ix, p_no, p_at, e_slice, e_rev, e_tup, e_lst, e_call, e_blt, e_isi, e_sset, e_sumL, e_mth, e_mk, es_cons, es_nil, s_ok, s_bind, s_of, List.map_cons, List.map_nil, List.cons_append, List.nil_append, List.replicate, Nat.reduceSub, List.getElem?_cons_zero, List.getElem?_cons_succ, List.set_cons_zero, List.set_cons_succ, ex_iteo, ex_iteno, ex_some, ex_sl, ex_own, ex_map, ex_bl, ex_int, ex_str, ex_lst, if_tt, if_ff, if_dec, if_not, rd_non, rd_bl, rdd_int, rdd_str, rd_tup, rd_lst, rd_scr, b_add, b_sub, b_mul, b_fdiv, b_mod, b_pow, b_cat, b_catL, b_catT, c_lt, c_gt, c_le, c_ge, c_eq, c_ne, c_eqs, c_nes, c_eqb, c_neb, t_bl, l_str, l_lst, l_tup, l_scr, m_min, m_max, m_tup, m_lst, m_intb, m_inti, i_lst, i_tup, i_str, i_scr, at0, at1, at2, ne_eq, Int.reduceEq, Int.reduceNe, not_false_eq_true, decide_true, decide_false, Int.reduceAbs, Int.reduceLE, Int.reduceLT, Int.reduceToNat, Int.reduceAdd, Nat.reduceLT, Nat.reduceLeDiff, Nat.reducePow, Bool.and_self, Bool.true_and, true_and, and_true, List.length_cons, List.length_nil, Nat.reduceAdd, i_seq, i_rng1, i_rng2, o_expr, o_retn, o_pass, o_retown, o_frz, o_appC, e_neg, e_kon, e_lset, e_chain, e_sumL, sz, w_tup, w_lst, w_str, ex_tup, set_nil, set_cons, ty_str, ty_lst, ty_tup, ty_bool, o_asgTu, Bool.not_true, Bool.not_false, i_own, i_cel, o_rem, if_true, if_false]
    by_cases c2 : v < (10 : Int) ^ 18
    · rw [if_pos c2]
      refine ⟨?_, ?_, ?_, m0, ?_⟩
      · rw [small_in (by omega) (by omega)]; rfl
      · have := Int.fmod_nonneg_of_pos v (b := 2147483629) (by decide)
        have := Int.fmod_lt_of_pos v (b := 2147483629) (by decide)
        rw [small_in (by omega) (by omega)]; rfl
      · rw [small_mod (by decide) (by decide)]; rfl
      · exact q _ _ (Int.fmod_nonneg_of_pos _ hm) (Int.fmod_lt_of_pos _ hm) ⟨hl, _, _, ea1, by omega, by omega⟩ x1
    · rw [if_neg c2]
      refine setix_at (k := 2) ea1 2 rfl fun h2 ea2 x2 => ?_
      simp only [List.set_cons_zero, List.set_cons_succ] at ea2
      rw [rd_cell ea2]
      simp only [o_cons, o_nil, o_ite, o_asg, o_ret, o_own, o_cel, o_app, o_setC, e_var, e_peek, e_lit, e_bin, e_cmp, e_not, e_and, e_or, e_isk, e_ix, p_no, p_at, e_slice, e_rev, e_tup, e_lst, e_call, e_blt, e_isi, e_sset, e_sumL, e_mth, e_mk, es_cons, es_nil, s_ok, s_bind, s_of, List.map_cons, List.map_nil, List.cons_append, List.nil_append, List.replicate, Nat.reduceSub, List.getElem?_cons_zero, List.getElem?_cons_succ, List.set_cons_zero, List.set_cons_succ, ex_iteo, ex_iteno, ex_some, ex_sl, ex_own, ex_map, ex_bl, ex_int, ex_str, ex_lst, if_tt, if_ff, if_dec, if_not, rd_non, rd_bl, rdd_int, rdd_str, rd_tup, rd_lst, rd_scr, b_add, b_sub, b_mul, b_fdiv, b_mod, b_pow, b_cat, b_catL, b_catT, c_lt, c_gt, c_le, c_ge, c_eq, c_ne, c_eqs, c_nes, c_eqb, c_neb, t_bl, l_str, l_lst, l_tup, l_scr, m_min, m_max, m_tup, m_lst, m_intb, m_inti, i_lst, i_tup, i_str, i_scr, at0, at1, at2, ne_eq, Int.reduceEq, Int.reduceNe, not_false_eq_true, decide_true, decide_false, Int.reduceAbs, Int.reduceLE, Int.reduceLT, Int.reduceToNat, Int.reduceAdd, Nat.reduceLT, Nat.reduceLeDiff, Nat.reducePow, Bool.and_self, Bool.true_and, true_and, and_true, List.length_cons, List.length_nil, Nat.reduceAdd, i_seq, i_rng1, i_rng2, o_expr, o_retn, o_pass, o_retown, o_frz, o_appC, e_neg, e_kon, e_lset, e_chain, e_sumL, sz, w_tup, w_lst, w_str, ex_tup, set_nil, set_cons, ty_str, ty_lst, ty_tup, ty_bool, o_asgTu, Bool.not_true, Bool.not_false, i_own, i_cel, o_rem, if_true, if_false]
      refine ⟨m0, mf, setix_at (k := 2) ea2 2 rfl fun h3 ea3 x3 => ?_⟩
      exact q _ _ (Int.fmod_nonneg_of_pos _ hm) (Int.fmod_lt_of_pos _ hm) ⟨hl, _, _, ea3, by omega, by omega⟩ (x1.trans (x2.trans x3))
  · rw [if_neg c]
    refine ⟨m0, by simpa using mf, setix_at (k := 2) ea 2 rfl fun h3 ea3 x3 => ?_⟩
    exact q _ _ (Int.fmod_nonneg_of_pos _ hm) (Int.fmod_lt_of_pos _ hm) ⟨hl, _, _, ea3, by omega, by omega⟩ x3
end Lb.Dr
end
section
set_option Elab.async false
set_option linter.all false
set_option maxRecDepth 100000
namespace Lb.Dr
open Lb
def isNm (t : Tx) : Prop := 1 ≤ t.length ∧ t.length ≤ 6 ∧ ∀ c ∈ t, 97 ≤ c ∧ c ≤ 122
theorem texts_map : ∀ (cs : List Nat), textsD (cs.map fun c => D.str [c]) = some (cs.map fun c => [c])
  | [] => rfl
  | c :: r => by
    show (textsD (r.map fun c => D.str [c])).map _ = _
    rw [texts_map r]; rfl
theorem join_map : ∀ (cs : List Nat), joinT [] (cs.map fun c => [c]) = cs
  | [] => rfl
  | [c] => rfl
  | c :: d :: r => by
    show [c] ++ [] ++ joinT [] ((d :: r).map fun c => [c]) = _
    rw [join_map (d :: r)]; rfl
theorem join_cs {cs : List Nat} (h : cs.length ≤ sz) : mth .join (.str []) [.lst (cs.map fun c => D.str [c])] = some (.str cs) := by
  show mJoin [] [.lst (cs.map fun c => D.str [c])] = _
  show ((textsD (cs.map fun c => D.str [c])).bind fun ts => if (joinT [] ts).length + ([] : Tx).length ≤ sz then some (D.str (joinT [] ts)) else none) = _
  rw [texts_map]
  show (if (joinT [] (cs.map fun c => [c])).length + ([] : Tx).length ≤ sz then some (D.str (joinT [] (cs.map fun c => [c]))) else none) = _
  rw [join_map]
  exact if_pos h
abbrev abc : Tx := [97, 98, 99, 100, 101, 102, 103, 104, 105, 106, 107, 108, 109, 110, 111, 112, 113, 114, 115, 116, 117, 118, 119, 120, 121, 122]
theorem abc_at {k : Int} (h : 0 ≤ k) (h2 : k < 26) : ∃ c, atI abc k = some c ∧ 97 ≤ c ∧ c ≤ 122 := by
  obtain ⟨v, e, _, m⟩ := atI_in (xs := abc) h (by exact h2)
  refine ⟨v, e, ?_⟩
  have : ∀ v ∈ abc, 97 ≤ v ∧ v ≤ 122 := by decide
  exact this v m
theorem name_sat {E : Env} (e1 : E 72 = some fd_cell) (e2 : E 73 = some fd_take) (e3 : E 74 = some fd_name) {n a : Nat} {ns : List Int} {B : Int} {h : Heap} (st : Dst a ns B h) (hB : B + 7 < 2 ^ 60) (P : D → Heap → Prop)
    (q : ∀ t h', isNm t → Dst a ns (B + 7) h' → Dxt a h h' → P (.str t) h') : sat (callN E (n + 3) 74 [.cell a] h) P := by
  refine call_sat e3 rfl ?_
  unfold fd_name
  simp only [o_cons, o_nil, o_ite, o_asg, o_ret, o_own, o_cel, o_app, o_setC, e_var, e_peek, e_lit, e_bin, e_cmp, e_not, e_and, e_or, e_isk, e_ix, p_no, p_at, e_slice, e_rev, e_tup, e_lst, e_call, e_blt, e_isi, e_sset, e_sumL, e_mth, e_mk, es_cons, es_nil, s_ok, s_bind, s_of, List.map_cons, List.map_nil, List.cons_append, List.nil_append, List.replicate, Nat.reduceSub, List.getElem?_cons_zero, List.getElem?_cons_succ, List.set_cons_zero, List.set_cons_succ, ex_iteo, ex_iteno, ex_some, ex_sl, ex_own, ex_map, ex_bl, ex_int, ex_str, ex_lst, if_tt, if_ff, if_dec, if_not, rd_non, rd_bl, rdd_int, rdd_str, rd_tup, rd_lst, rd_scr, b_add, b_sub, b_mul, b_fdiv, b_mod, b_pow, b_cat, b_catL, b_catT, c_lt, c_gt, c_le, c_ge, c_eq, c_ne, c_eqs, c_nes, c_eqb, c_neb, t_bl, l_str, l_lst, l_tup, l_scr, m_min, m_max, m_tup, m_lst, m_intb, m_inti, i_lst, i_tup, i_str, i_scr, at0, at1, at2, ne_eq, Int.reduceEq, Int.reduceNe, not_false_eq_true, decide_true, decide_false, Int.reduceAbs, Int.reduceLE, Int.reduceLT, Int.reduceToNat, Int.reduceAdd, Nat.reduceLT, Nat.reduceLeDiff, Nat.reducePow, Bool.and_self, Bool.true_and, true_and, and_true, List.length_cons, List.length_nil, Nat.reduceAdd, i_seq, i_rng1, i_rng2, o_expr, o_retn, o_pass, o_retown, o_frz, o_appC, e_neg, e_kon, e_lset, e_chain, e_sumL, sz, w_tup, w_lst, w_str, ex_tup, set_nil, set_cons, ty_str, ty_lst, ty_tup, ty_bool, o_asgTu, Bool.not_true, Bool.not_false, i_own, i_cel, o_rem, if_true, if_false]
  refine e_comp ?_
  simp only [o_cons, o_nil, o_ite, o_asg, o_ret, o_own, o_cel, o_app, o_setC, e_var, e_peek, e_lit, e_bin, e_cmp, e_not, e_and, e_or, e_isk, e_ix, p_no, p_at, e_slice, e_rev, e_tup, e_lst, e_call, e_blt, e_isi, e_sset, e_sumL, e_mth, e_mk, es_cons, es_nil, s_ok, s_bind, s_of, List.map_cons, List.map_nil, List.cons_append, List.nil_append, List.replicate, Nat.reduceSub, List.getElem?_cons_zero, List.getElem?_cons_succ, List.set_cons_zero, List.set_cons_succ, ex_iteo, ex_iteno, ex_some, ex_sl, ex_own, ex_map, ex_bl, ex_int, ex_str, ex_lst, if_tt, if_ff, if_dec, if_not, rd_non, rd_bl, rdd_int, rdd_str, rd_tup, rd_lst, rd_scr, b_add, b_sub, b_mul, b_fdiv, b_mod, b_pow, b_cat, b_catL, b_catT, c_lt, c_gt, c_le, c_ge, c_eq, c_ne, c_eqs, c_nes, c_eqb, c_neb, t_bl, l_str, l_lst, l_tup, l_scr, m_min, m_max, m_tup, m_lst, m_intb, m_inti, i_lst, i_tup, i_str, i_scr, at0, at1, at2, ne_eq, Int.reduceEq, Int.reduceNe, not_false_eq_true, decide_true, decide_false, Int.reduceAbs, Int.reduceLE, Int.reduceLT, Int.reduceToNat, Int.reduceAdd, Nat.reduceLT, Nat.reduceLeDiff, Nat.reducePow, Bool.and_self, Bool.true_and, true_and, and_true, List.length_cons, List.length_nil, Nat.reduceAdd, i_seq, i_rng1, i_rng2, o_expr, o_retn, o_pass, o_retown, o_frz, o_appC, e_neg, e_kon, e_lset, e_chain, e_sumL, sz, w_tup, w_lst, w_str, ex_tup, set_nil, set_cons, ty_str, ty_lst, ty_tup, ty_bool, o_asgTu, Bool.not_true, Bool.not_false, i_own, i_cel, o_rem, if_true, if_false]
  refine take_sat e1 e2 st (by omega) (by omega) (by omega) _ fun k h1 k0 k9 st1 x1 => ?_
  simp only [o_cons, o_nil, o_ite, o_asg, o_ret, o_own, o_cel, o_app, o_setC, e_var, e_peek, e_lit, e_bin, e_cmp, e_not, e_and, e_or, e_isk, e_ix, p_no, p_at, e_slice, e_rev, e_tup, e_lst, e_call, e_blt, e_isi, e_sset, e_sumL, e_mth, e_mk, es_cons, es_nil, s_ok, s_bind, s_of, List.map_cons, List.map_nil, List.cons_append, List.nil_append, List.replicate, Nat.reduceSub, List.getElem?_cons_zero, List.getElem?_cons_succ, List.set_cons_zero, List.set_cons_succ, ex_iteo, ex_iteno, ex_some, ex_sl, ex_own, ex_map, ex_bl, ex_int, ex_str, ex_lst, if_tt, if_ff, if_dec, if_not, rd_non, rd_bl, rdd_int, rdd_str, rd_tup, rd_lst, rd_scr, b_add, b_sub, b_mul, b_fdiv, b_mod, b_pow, b_cat, b_catL, b_catT, c_lt, c_gt, c_le, c_ge, c_eq, c_ne, c_eqs, c_nes, c_eqb, c_neb, t_bl, l_str, l_lst, l_tup, l_scr, m_min, m_max, m_tup, m_lst, m_intb, m_inti, i_lst, i_tup, i_str, i_scr, at0, at1, at2, ne_eq, Int.reduceEq, Int.reduceNe, not_false_eq_true, decide_true, decide_false, Int.reduceAbs, Int.reduceLE, Int.reduceLT, Int.reduceToNat, Int.reduceAdd, Nat.reduceLT, Nat.reduceLeDiff, Nat.reducePow, Bool.and_self, Bool.true_and, true_and, and_true, List.length_cons, List.length_nil, Nat.reduceAdd, i_seq, i_rng1, i_rng2, o_expr, o_retn, o_pass, o_retown, o_frz, o_appC, e_neg, e_kon, e_lset, e_chain, e_sumL, sz, w_tup, w_lst, w_str, ex_tup, set_nil, set_cons, ty_str, ty_lst, ty_tup, ty_bool, o_asgTu, Bool.not_true, Bool.not_false, i_own, i_cel, o_rem, if_true, if_false]
  have l0 := Int.fmod_nonneg_of_pos k (b := 6) (by decide)
  have l1 := Int.fmod_lt_of_pos k (b := 6) (by decide)
  refine ⟨rng_in (by omega) (by omega), fun j acc h' => Dst a ns (B + 1 + j) h' ∧ Dxt a h h' ∧ ∃ cs : List Nat, acc = cs.map (fun c => D.str [c]) ∧ ∀ c ∈ cs, 97 ≤ c ∧ c ≤ 122, ⟨st1.mono (by omega), x1, [], rfl, by simp⟩, ?_, ?_⟩
  · rintro j x acc h' ex el ⟨st2, x2, cs, ec, hc⟩
    obtain ⟨rfl, lj⟩ := rngL_at ex
    refine ⟨_, rfl, ?_⟩
    simp only [o_cons, o_nil, o_ite, o_asg, o_ret, o_own, o_cel, o_app, o_setC, e_var, e_peek, e_lit, e_bin, e_cmp, e_not, e_and, e_or, e_isk, e_ix, p_no, p_at, e_slice, e_rev, e_tup, e_lst, e_call, e_blt, e_isi, e_sset, e_sumL, e_mth, e_mk, es_cons, es_nil, s_ok, s_bind, s_of, List.map_cons, List.map_nil, List.cons_append, List.nil_append, List.replicate, Nat.reduceSub, List.getElem?_cons_zero, List.getElem?_cons_succ, List.set_cons_zero, List.set_cons_succ, ex_iteo, ex_iteno, ex_some, ex_sl, ex_own, ex_map, ex_bl, ex_int, ex_str, ex_lst, if_tt, if_ff, if_dec, if_not, rd_non, rd_bl, rdd_int, rdd_str, rd_tup, rd_lst, rd_scr, b_add, b_sub, b_mul, b_fdiv, b_mod, b_pow, b_cat, b_catL, b_catT, c_lt, c_gt, c_le, c_ge, c_eq, c_ne, c_eqs, c_nes, c_eqb, c_neb, t_bl, l_str, l_lst, l_tup, l_scr, m_min, m_max, m_tup, m_lst, m_intb, m_inti, i_lst, i_tup, i_str, i_scr, at0, at1, at2, ne_eq, Int.reduceEq, Int.reduceNe, not_false_eq_true, decide_true, decide_false, Int.reduceAbs, Int.reduceLE, Int.reduceLT, Int.reduceToNat, Int.reduceAdd, Nat.reduceLT, Nat.reduceLeDiff, Nat.reducePow, Bool.and_self, Bool.true_and, true_and, and_true, List.length_cons, List.length_nil, Nat.reduceAdd, i_seq, i_rng1, i_rng2, o_expr, o_retn, o_pass, o_retown, o_frz, o_appC, e_neg, e_kon, e_lset, e_chain, e_sumL, sz, w_tup, w_lst, w_str, ex_tup, set_nil, set_cons, ty_str, ty_lst, ty_tup, ty_bool, o_asgTu, Bool.not_true, Bool.not_false, i_own, i_cel, o_rem, if_true, if_false, Tg.slots, wipe]
    refine take_sat e1 e2 st2 (by omega) (by omega) (by omega) _ fun k2 h3 k0 k26 st3 x3 => ?_
    obtain ⟨c, e4, hc1⟩ := abc_at k0 k26
    simp only [o_cons, o_nil, o_ite, o_asg, o_ret, o_own, o_cel, o_app, o_setC, e_var, e_peek, e_lit, e_bin, e_cmp, e_not, e_and, e_or, e_isk, e_ix, p_no, p_at, e_slice, e_rev, e_tup, e_lst, e_call, e_blt, e_isi, e_sset, e_sumL, e_mth, e_mk, es_cons, es_nil, s_ok, s_bind, s_of, List.map_cons, List.map_nil, List.cons_append, List.nil_append, List.replicate, Nat.reduceSub, List.getElem?_cons_zero, List.getElem?_cons_succ, List.set_cons_zero, List.set_cons_succ, ex_iteo, ex_iteno, ex_some, ex_sl, ex_own, ex_map, ex_bl, ex_int, ex_str, ex_lst, if_tt, if_ff, if_dec, if_not, rd_non, rd_bl, rdd_int, rdd_str, rd_tup, rd_lst, rd_scr, b_add, b_sub, b_mul, b_fdiv, b_mod, b_pow, b_cat, b_catL, b_catT, c_lt, c_gt, c_le, c_ge, c_eq, c_ne, c_eqs, c_nes, c_eqb, c_neb, t_bl, l_str, l_lst, l_tup, l_scr, m_min, m_max, m_tup, m_lst, m_intb, m_inti, i_lst, i_tup, i_str, i_scr, at0, at1, at2, ne_eq, Int.reduceEq, Int.reduceNe, not_false_eq_true, decide_true, decide_false, Int.reduceAbs, Int.reduceLE, Int.reduceLT, Int.reduceToNat, Int.reduceAdd, Nat.reduceLT, Nat.reduceLeDiff, Nat.reducePow, Bool.and_self, Bool.true_and, true_and, and_true, List.length_cons, List.length_nil, Nat.reduceAdd, i_seq, i_rng1, i_rng2, o_expr, o_retn, o_pass, o_retown, o_frz, o_appC, e_neg, e_kon, e_lset, e_chain, e_sumL, sz, w_tup, w_lst, w_str, ex_tup, set_nil, set_cons, ty_str, ty_lst, ty_tup, ty_bool, o_asgTu, Bool.not_true, Bool.not_false, i_own, i_cel, o_rem, if_true, if_false]
    refine ⟨c, e4, st3.mono (by push_cast; omega), x2.trans x3, cs ++ [c], by rw [ec, List.map_append]; rfl, ?_⟩
    intro d hd
    rw [List.mem_append, List.mem_singleton] at hd
    rcases hd with hd | rfl
    · exact hc d hd
    · exact hc1
  · rintro acc h' el ⟨st2, x2, cs, ec, hc⟩
    rw [rngL_n] at el st2
    have lc : cs.length = (1 + k.fmod 6).toNat := by rw [← el, ec, List.length_map]
    refine ⟨by rw [el]; show _ ≤ 16777216; omega, .str cs, ?_, ?_⟩
    · rw [ec]; exact join_cs (by rw [lc]; show _ ≤ 16777216; omega)
    · refine q cs h' ⟨by omega, by omega, hc⟩ (st2.mono (by omega)) x2
end Lb.Dr
end
section
set_option Elab.async false
set_option linter.all false
set_option maxRecDepth 100000
namespace Lb
mutual
theorem eqv_self : ∀ {d : D}, plain d = true → eqv d d = true
  | .non, _ => rfl
  | .bl b, _ => by cases b <;> rfl
  | .int i, _ => by show (i == i) = true; simp
  | .str x, _ => by show (x == x) = true; simp
  | .lst xs, h => eqvL_self (xs := xs) h
  | .tup xs, h => eqvL_self (xs := xs) h
theorem eqvL_self : ∀ {xs : List D}, plainL xs = true → eqvL xs xs = true
  | [], _ => rfl
  | x :: r, h => by
    have h : (plain x && plainL r) = true := h
    rw [Bool.and_eq_true] at h
    show (eqv x x && eqvL r r) = true
    rw [eqv_self h.1, eqvL_self h.2]; rfl
end
theorem plainL_iff : ∀ {xs : List D}, plainL xs = true ↔ ∀ x ∈ xs, plain x = true
  | [] => by simp [plainL]
  | x :: r => by
    show (plain x && plainL r) = true ↔ _
    rw [Bool.and_eq_true, plainL_iff (xs := r)]
    simp
theorem depthL_le {n : Nat} : ∀ {xs : List D}, (∀ x ∈ xs, depth x ≤ n) → depthL xs ≤ n
  | [], _ => Nat.zero_le _
  | x :: r, h => Nat.max_le.mpr ⟨h x (by simp), depthL_le fun y hy => h y (by simp [hy])⟩
/-- data of no more than such a depth -/
def Pd (n : Nat) (d : D) : Prop := plain d = true ∧ depth d ≤ n
theorem Pd.mono {n m : Nat} {d : D} (h : Pd n d) (l : n ≤ m) : Pd m d := ⟨h.1, Nat.le_trans h.2 l⟩
theorem Pd.ok {n : Nat} {d : D} (h : Pd n d) (l : n ≤ 40) : okD d = true := by
  unfold okD; rw [Bool.and_eq_true, decide_eq_true_eq]; exact ⟨h.1, Nat.le_trans h.2 l⟩
theorem Pd.lst {n : Nat} {xs : List D} (h : ∀ x ∈ xs, Pd n x) : Pd (n + 1) (.lst xs) :=
  ⟨plainL_iff.mpr fun x hx => (h x hx).1, Nat.succ_le_succ (depthL_le fun x hx => (h x hx).2)⟩
theorem Pd.tup {n : Nat} {xs : List D} (h : ∀ x ∈ xs, Pd n x) : Pd (n + 1) (.tup xs) :=
  ⟨plainL_iff.mpr fun x hx => (h x hx).1, Nat.succ_le_succ (depthL_le fun x hx => (h x hx).2)⟩
theorem Pd.str {x : Tx} (h : ∀ c ∈ x, c < 1114112) : Pd 0 (.str x) := ⟨by
  show x.all (fun c => decide (c < 1114112)) = true
  rw [List.all_eq_true]
  intro c hc
  exact decide_eq_true (h c hc), Nat.le_refl _⟩
theorem Pd.int {i : Int} : Pd 0 (.int i) := ⟨rfl, Nat.le_refl _⟩
theorem Pd.bl {b : Bool} : Pd 0 (.bl b) := ⟨rfl, Nat.le_refl _⟩
theorem Pd.non : Pd 0 .non := ⟨rfl, Nat.le_refl _⟩
theorem dedup_mem : ∀ {xs : List D} {x : D}, x ∈ dedup xs → x ∈ xs
  | y :: r, x, h => by
    have h : x ∈ (let s := dedup r; if s.any fun z => eqv z y then s else y :: s) := h
    by_cases c : ((dedup r).any fun z => eqv z y) = true
    · simp only [c, if_true] at h
      exact List.mem_cons_of_mem _ (dedup_mem h)
    · simp only [c] at h
      rcases List.mem_cons.mp h with e | h
      · rw [e]; simp
      · exact List.mem_cons_of_mem _ (dedup_mem h)
theorem dedup_len : ∀ {xs : List D}, (dedup xs).length ≤ xs.length
  | [] => Nat.le_refl _
  | y :: r => by
    show (let s := dedup r; if s.any fun z => eqv z y then s else y :: s).length ≤ r.length + 1
    by_cases c : ((dedup r).any fun z => eqv z y) = true
    · simp only [c, if_true]
      exact Nat.le_succ_of_le dedup_len
    · simp only [c]
      exact Nat.succ_le_succ dedup_len
theorem dedup_pos {y : D} {r : List D} : dedup (y :: r) ≠ [] := by
  show (let s := dedup r; if s.any fun z => eqv z y then s else y :: s) ≠ []
  by_cases c : ((dedup r).any fun z => eqv z y) = true
  · simp only [c, if_true]
    intro e
    rw [e] at c
    cases c
  · simp only [c]
    intro e
    cases e
theorem sort_mem {xs : List D} {x : D} : x ∈ sort xs ↔ x ∈ xs := List.mem_mergeSort
theorem sort_len {xs : List D} : (sort xs).length = xs.length := List.length_mergeSort ..
theorem sset_ts {xs : List D} (l : xs.length < 64) (h : ∀ x ∈ xs, isTS x = true) : bSset (.lst xs) = some (.lst (sort (dedup xs))) := by
  show (if canSet xs then some (D.lst (sort (dedup xs))) else none) = _
  refine if_pos ?_
  unfold canSet
  rw [Bool.and_eq_true, decide_eq_true_eq]
  refine ⟨l, ?_⟩
  rw [Bool.or_eq_true]
  exact .inr (List.all_eq_true.mpr h)
theorem sset_s {xs : List D} (l : xs.length < 64) (h : ∀ x ∈ xs, isS x = true) : bSset (.lst xs) = some (.lst (sort (dedup xs))) := by
  show (if canSet xs then some (D.lst (sort (dedup xs))) else none) = _
  refine if_pos ?_
  unfold canSet
  rw [Bool.and_eq_true, decide_eq_true_eq]
  refine ⟨l, ?_⟩
  rw [Bool.or_eq_true, Bool.or_eq_true]
  exact .inl (.inl (List.all_eq_true.mpr h))
theorem ne_self {d : D} (h : okD d = true) : cmp .ne d d = some false := by
  show (same d d).map (fun k => !k) = _
  have e : same d d = some true := by
    unfold same
    rw [if_pos (by rw [h, Bool.and_self, Bool.or_true]), eqv_self]
    unfold okD at h
    rw [Bool.and_eq_true] at h
    exact h.1
  rw [e]; rfl
/-- the heap has grown -/
def Gr (h h' : Heap) : Prop := h.length ≤ h'.length ∧ ∀ b, b < h.length → h'[b]? = h[b]?
theorem Gr.refl {h : Heap} : Gr h h := ⟨Nat.le_refl _, fun _ _ => rfl⟩
theorem Gr.trans {h h' h'' : Heap} (x : Gr h h') (y : Gr h' h'') : Gr h h'' := ⟨Nat.le_trans x.1 y.1, fun b l => (y.2 b (Nat.lt_of_lt_of_le l x.1)).trans (x.2 b l)⟩
theorem Gr.app {h : Heap} {c : Cell} : Gr h (h ++ [c]) := ⟨by simp, fun b l => by rw [List.getElem?_append_left l]⟩
theorem get_app {h : Heap} {c : Cell} : (h ++ [c])[h.length]? = some c := by simp
theorem take_one {α : Type} {xs : List α} {j : Nat} {x : α} (h : xs[j]? = some x) : xs.take (j + 1) = xs.take j ++ [x] := by
  rw [List.take_add_one, h]; rfl
end Lb
namespace Lb.Dr
open Lb
theorem isNm.pd {t : Tx} (h : isNm t) : Pd 0 (.str t) := Pd.str fun c hc => by have := h.2.2 c hc; omega
abbrev tGroup : Tx := [103, 114, 111, 117, 112]
abbrev tHand : Tx := [104, 97, 110, 100]
abbrev tOffice : Tx := [111, 102, 102, 105, 99, 101]
/-- one part of a who -/
def isPt (d : D) : Prop := ∃ k t, d = .tup [.str k, .str t] ∧ (k = tGroup ∨ k = tHand ∨ k = tOffice) ∧ isNm t
theorem isPt.ts {d : D} (h : isPt d) : isTS d = true := by
  obtain ⟨k, t, rfl, _⟩ := h; rfl
theorem isPt.pd {d : D} (h : isPt d) : Pd 1 d := by
  obtain ⟨k, t, rfl, hk, ht⟩ := h
  refine Pd.tup (n := 0) fun x hx => ?_
  rcases List.mem_cons.mp hx with rfl | hx
  · refine Pd.str fun c hc => ?_
    have a1 : ∀ c ∈ tGroup, c < 1114112 := by decide
    have a2 : ∀ c ∈ tHand, c < 1114112 := by decide
    have a3 : ∀ c ∈ tOffice, c < 1114112 := by decide
    rcases hk with rfl | rfl | rfl
    · exact a1 c hc
    · exact a2 c hc
    · exact a3 c hc
  · rw [List.mem_singleton] at hx
    subst hx
    exact ht.pd
theorem Dxt.gr {a : Nat} {h h' : Heap} (g : Gr h h') : Dxt a h h' := ⟨g.1, fun b _ l => g.2 b l⟩
theorem Dst.gr {a : Nat} {ns : List Int} {B : Int} {h h' : Heap} (s : Dst a ns B h) (g : Gr h h') : Dst a ns B h' := by
  obtain ⟨l, s1, s2, e, z⟩ := s
  exact ⟨l, s1, s2, (g.2 a (by rw [List.getElem?_eq_some_iff] at e; exact e.1)).trans e, z⟩
theorem Dst.set {a b : Nat} {ns : List Int} {B : Int} {h : Heap} {c : Cell} (s : Dst a ns B h) (n : b ≠ a) : Dst a ns B (h.set b c) := by
  obtain ⟨l, s1, s2, e, z⟩ := s
  exact ⟨l, s1, s2, by rw [List.getElem?_set_ne n]; exact e, z⟩
def fd_who : Fd := ⟨1, 3, (.cons (.own 1 (.lst .nil))
    (.cons (.for_ (.nm 2) (.rng1 (.bin .add (.lit (.int 1)) (.call 73 (.cons (.var 0) (.cons (.ix (.lst (.cons (.lit (.int 3)) (.cons (.lit (.int 3)) (.cons (.lit (.int 6)) .nil)))) (.call 73 (.cons (.var 0) (.cons (.lit (.int 3)) .nil)))) .nil)))))
    (.cons (.app 1 (.tup (.cons (.ix (.lst (.cons (.lit (.str [103, 114, 111, 117, 112])) (.cons (.lit (.str [104, 97, 110, 100])) (.cons (.lit (.str [111, 102, 102, 105, 99, 101])) .nil)))) (.call 73 (.cons (.var 0) (.cons (.lit (.int 3)) .nil)))) (.cons (.call 74 (.cons (.var 0) .nil)) .nil))))
    .nil))
    (.cons (.ret (.blt .tup (.cons (.sset (.peek 1)) .nil)))
    .nil)))⟩
theorem ge3 {k : Int} (h : 0 ≤ k) (h2 : k < 3) : k = 0 ∨ k = 1 ∨ k = 2 := by omega
theorem who_sat {E : Env} (e1 : E 72 = some fd_cell) (e2 : E 73 = some fd_take) (e3 : E 74 = some fd_name) (e4 : E 75 = some fd_who) {n a : Nat} {ns : List Int} {B : Int} {h : Heap} (st : Dst a ns B h) (hB : B + 50 < 2 ^ 60) (P : D → Heap → Prop)
    (q : ∀ xs h', xs.length ≤ 6 → xs ≠ [] → (∀ x ∈ xs, isPt x) → Dst a ns (B + 50) h' → Dxt a h h' → P (.tup xs) h') : sat (callN E (n + 4) 75 [.cell a] h) P := by
  refine call_sat e4 rfl ?_
  unfold fd_who
  simp only [o_cons, o_nil, o_ite, o_asg, o_ret, o_own, o_cel, o_app, o_setC, e_var, e_peek, e_lit, e_bin, e_cmp, e_not, e_and, e_or, e_isk, e_ix, p_no, p_at, e_slice, e_rev, e_tup, e_lst, e_call, e_blt, e_isi, e_sset, e_sumL, e_mth, e_mk, es_cons, es_nil, s_ok, s_bind, s_of, List.map_cons, List.map_nil, List.cons_append, List.nil_append, List.replicate, Nat.reduceSub, List.getElem?_cons_zero, List.getElem?_cons_succ, List.set_cons_zero, List.set_cons_succ, ex_iteo, ex_iteno, ex_some, ex_sl, ex_own, ex_map, ex_bl, ex_int, ex_str, ex_lst, if_tt, if_ff, if_dec, if_not, rd_non, rd_bl, rdd_int, rdd_str, rd_tup, rd_lst, rd_scr, b_add, b_sub, b_mul, b_fdiv, b_mod, b_pow, b_cat, b_catL, b_catT, c_lt, c_gt, c_le, c_ge, c_eq, c_ne, c_eqs, c_nes, c_eqb, c_neb, t_bl, l_str, l_lst, l_tup, l_scr, m_min, m_max, m_tup, m_lst, m_intb, m_inti, i_lst, i_tup, i_str, i_scr, at0, at1, at2, ne_eq, Int.reduceEq, Int.reduceNe, not_false_eq_true, decide_true, decide_false, Int.reduceAbs, Int.reduceLE, Int.reduceLT, Int.reduceToNat, Int.reduceAdd, Nat.reduceLT, Nat.reduceLeDiff, Nat.reducePow, Bool.and_self, Bool.true_and, true_and, and_true, List.length_cons, List.length_nil, Nat.reduceAdd, i_seq, i_rng1, i_rng2, o_expr, o_retn, o_pass, o_retown, o_frz, o_appC, e_neg, e_kon, e_lset, e_chain, e_sumL, sz, w_tup, w_lst, w_str, ex_tup, set_nil, set_cons, ty_str, ty_lst, ty_tup, ty_bool, o_asgTu, Bool.not_true, Bool.not_false, i_own, i_cel, o_rem, if_true, if_false]
  refine o_for ?_
  simp only [o_cons, o_nil, o_ite, o_asg, o_ret, o_own, o_cel, o_app, o_setC, e_var, e_peek, e_lit, e_bin, e_cmp, e_not, e_and, e_or, e_isk, e_ix, p_no, p_at, e_slice, e_rev, e_tup, e_lst, e_call, e_blt, e_isi, e_sset, e_sumL, e_mth, e_mk, es_cons, es_nil, s_ok, s_bind, s_of, List.map_cons, List.map_nil, List.cons_append, List.nil_append, List.replicate, Nat.reduceSub, List.getElem?_cons_zero, List.getElem?_cons_succ, List.set_cons_zero, List.set_cons_succ, ex_iteo, ex_iteno, ex_some, ex_sl, ex_own, ex_map, ex_bl, ex_int, ex_str, ex_lst, if_tt, if_ff, if_dec, if_not, rd_non, rd_bl, rdd_int, rdd_str, rd_tup, rd_lst, rd_scr, b_add, b_sub, b_mul, b_fdiv, b_mod, b_pow, b_cat, b_catL, b_catT, c_lt, c_gt, c_le, c_ge, c_eq, c_ne, c_eqs, c_nes, c_eqb, c_neb, t_bl, l_str, l_lst, l_tup, l_scr, m_min, m_max, m_tup, m_lst, m_intb, m_inti, i_lst, i_tup, i_str, i_scr, at0, at1, at2, ne_eq, Int.reduceEq, Int.reduceNe, not_false_eq_true, decide_true, decide_false, Int.reduceAbs, Int.reduceLE, Int.reduceLT, Int.reduceToNat, Int.reduceAdd, Nat.reduceLT, Nat.reduceLeDiff, Nat.reducePow, Bool.and_self, Bool.true_and, true_and, and_true, List.length_cons, List.length_nil, Nat.reduceAdd, i_seq, i_rng1, i_rng2, o_expr, o_retn, o_pass, o_retown, o_frz, o_appC, e_neg, e_kon, e_lset, e_chain, e_sumL, sz, w_tup, w_lst, w_str, ex_tup, set_nil, set_cons, ty_str, ty_lst, ty_tup, ty_bool, o_asgTu, Bool.not_true, Bool.not_false, i_own, i_cel, o_rem, if_true, if_false]
  refine take_sat e1 e2 st (by omega) (by omega) (by omega) _ fun k h1 k0 k3 st1 x1 => ?_
  have em : ∃ m, atI [D.int 3, D.int 3, D.int 6] k = some (.int m) ∧ 0 < m ∧ m ≤ 6 := by
    rcases ge3 k0 k3 with rfl | rfl | rfl
    · exact ⟨3, rfl, by omega, by omega⟩
    · exact ⟨3, rfl, by omega, by omega⟩
    · exact ⟨6, rfl, by omega, by omega⟩
  obtain ⟨m, em, m0, m6⟩ := em
  simp only [o_cons, o_nil, o_ite, o_asg, o_ret, o_own, o_cel, o_app, o_setC, e_var, e_peek, e_lit, e_bin, e_cmp, e_not, e_and, e_or, e_isk, e_ix, p_no, p_at, e_slice, e_rev, e_tup, e_lst, e_call, e_blt, e_isi, e_sset, e_sumL, e_mth, e_mk, es_cons, es_nil, s_ok, s_bind, s_of, List.map_cons, List.map_nil, List.cons_append, List.nil_append, List.replicate, Nat.reduceSub, List.getElem?_cons_zero, List.getElem?_cons_succ, List.set_cons_zero, List.set_cons_succ, ex_iteo, ex_iteno, ex_some, ex_sl, ex_own, ex_map, ex_bl, ex_int, ex_str, ex_lst, if_tt, if_ff, if_dec, if_not, rd_non, rd_bl, rdd_int, rdd_str, rd_tup, rd_lst, rd_scr, b_add, b_sub, b_mul, b_fdiv, b_mod, b_pow, b_cat, b_catL, b_catT, c_lt, c_gt, c_le, c_ge, c_eq, c_ne, c_eqs, c_nes, c_eqb, c_neb, t_bl, l_str, l_lst, l_tup, l_scr, m_min, m_max, m_tup, m_lst, m_intb, m_inti, i_lst, i_tup, i_str, i_scr, at0, at1, at2, ne_eq, Int.reduceEq, Int.reduceNe, not_false_eq_true, decide_true, decide_false, Int.reduceAbs, Int.reduceLE, Int.reduceLT, Int.reduceToNat, Int.reduceAdd, Nat.reduceLT, Nat.reduceLeDiff, Nat.reducePow, Bool.and_self, Bool.true_and, true_and, and_true, List.length_cons, List.length_nil, Nat.reduceAdd, i_seq, i_rng1, i_rng2, o_expr, o_retn, o_pass, o_retown, o_frz, o_appC, e_neg, e_kon, e_lset, e_chain, e_sumL, sz, w_tup, w_lst, w_str, ex_tup, set_nil, set_cons, ty_str, ty_lst, ty_tup, ty_bool, o_asgTu, Bool.not_true, Bool.not_false, i_own, i_cel, o_rem, if_true, if_false]
  refine ⟨.int m, em, take_sat e1 e2 st1 (by omega) (by omega) (by omega) _ fun k2 h2 k20 k2m st2 x2 => ?_⟩
  simp only [o_cons, o_nil, o_ite, o_asg, o_ret, o_own, o_cel, o_app, o_setC, e_var, e_peek, e_lit, e_bin, e_cmp, e_not, e_and, e_or, e_isk, e_ix, p_no, p_at, e_slice, e_rev, e_tup, e_lst, e_call, e_blt, e_isi, e_sset, e_sumL, e_mth, e_mk, es_cons, es_nil, s_ok, s_bind, s_of, List.map_cons, List.map_nil, List.cons_append, List.nil_append, List.replicate, Nat.reduceSub, List.getElem?_cons_zero, List.getElem?_cons_succ, List.set_cons_zero, List.set_cons_succ, ex_iteo, ex_iteno, ex_some, ex_sl, ex_own, ex_map, ex_bl, ex_int, ex_str, ex_lst, if_tt, if_ff, if_dec, if_not, rd_non, rd_bl, rdd_int, rdd_str, rd_tup, rd_lst, rd_scr, b_add, b_sub, b_mul, b_fdiv, b_mod, b_pow, b_cat, b_catL, b_catT, c_lt, c_gt, c_le, c_ge, c_eq, c_ne, c_eqs, c_nes, c_eqb, c_neb, t_bl, l_str, l_lst, l_tup, l_scr, m_min, m_max, m_tup, m_lst, m_intb, m_inti, i_lst, i_tup, i_str, i_scr, at0, at1, at2, ne_eq, Int.reduceEq, Int.reduceNe, not_false_eq_true, decide_true, decide_false, Int.reduceAbs, Int.reduceLE, Int.reduceLT, Int.reduceToNat, Int.reduceAdd, Nat.reduceLT, Nat.reduceLeDiff, Nat.reducePow, Bool.and_self, Bool.true_and, true_and, and_true, List.length_cons, List.length_nil, Nat.reduceAdd, i_seq, i_rng1, i_rng2, o_expr, o_retn, o_pass, o_retown, o_frz, o_appC, e_neg, e_kon, e_lset, e_chain, e_sumL, sz, w_tup, w_lst, w_str, ex_tup, set_nil, set_cons, ty_str, ty_lst, ty_tup, ty_bool, o_asgTu, Bool.not_true, Bool.not_false, i_own, i_cel, o_rem, if_true, if_false]
  refine ⟨rng_in (by omega) (by omega), fun j σ h' => Dst a ns (B + 2 + 8 * j) h' ∧ Dxt a h h' ∧ ∃ xs s2, σ = [.v (.cell a), .own xs, s2] ∧ xs.length = j ∧ ∀ x ∈ xs, isPt x, ⟨st2.mono (by omega), x1.trans x2, [], _, rfl, rfl, by simp⟩, ?_, ?_⟩
  · rintro j x σ h' ex ⟨st3, x3, xs, s2, rfl, el, hx⟩
    obtain ⟨rfl, lj⟩ := rngL_at ex
    refine ⟨_, rfl, ?_⟩
    simp only [o_cons, o_nil, o_ite, o_asg, o_ret, o_own, o_cel, o_app, o_setC, e_var, e_peek, e_lit, e_bin, e_cmp, e_not, e_and, e_or, e_isk, e_ix, p_no, p_at, e_slice, e_rev, e_tup, e_lst, e_call, e_blt, e_isi, e_sset, e_sumL, e_mth, e_mk, es_cons, es_nil, s_ok, s_bind, s_of, List.map_cons, List.map_nil, List.cons_append, List.nil_append, List.replicate, Nat.reduceSub, List.getElem?_cons_zero, List.getElem?_cons_succ, List.set_cons_zero, List.set_cons_succ, ex_iteo, ex_iteno, ex_some, ex_sl, ex_own, ex_map, ex_bl, ex_int, ex_str, ex_lst, if_tt, if_ff, if_dec, if_not, rd_non, rd_bl, rdd_int, rdd_str, rd_tup, rd_lst, rd_scr, b_add, b_sub, b_mul, b_fdiv, b_mod, b_pow, b_cat, b_catL, b_catT, c_lt, c_gt, c_le, c_ge, c_eq, c_ne, c_eqs, c_nes, c_eqb, c_neb, t_bl, l_str, l_lst, l_tup, l_scr, m_min, m_max, m_tup, m_lst, m_intb, m_inti, i_lst, i_tup, i_str, i_scr, at0, at1, at2, ne_eq, Int.reduceEq, Int.reduceNe, not_false_eq_true, decide_true, decide_false, Int.reduceAbs, Int.reduceLE, Int.reduceLT, Int.reduceToNat, Int.reduceAdd, Nat.reduceLT, Nat.reduceLeDiff, Nat.reducePow, Bool.and_self, Bool.true_and, true_and, and_true, List.length_cons, List.length_nil, Nat.reduceAdd, i_seq, i_rng1, i_rng2, o_expr, o_retn, o_pass, o_retown, o_frz, o_appC, e_neg, e_kon, e_lset, e_chain, e_sumL, sz, w_tup, w_lst, w_str, ex_tup, set_nil, set_cons, ty_str, ty_lst, ty_tup, ty_bool, o_asgTu, Bool.not_true, Bool.not_false, i_own, i_cel, o_rem, if_true, if_false]
    refine take_sat e1 e2 st3 (by omega) (by omega) (by omega) _ fun k3 h3 k30 k33 st4 x4 => ?_
    have ek : ∃ t, atI [D.str [103, 114, 111, 117, 112], D.str [104, 97, 110, 100], D.str [111, 102, 102, 105, 99, 101]] k3 = some (.str t) ∧ (t = tGroup ∨ t = tHand ∨ t = tOffice) := by
      rcases ge3 k30 k33 with rfl | rfl | rfl
      · exact ⟨_, rfl, .inl rfl⟩
      · exact ⟨_, rfl, .inr (.inl rfl)⟩
      · exact ⟨_, rfl, .inr (.inr rfl)⟩
    obtain ⟨t, ek, ht⟩ := ek
    simp only [o_cons, o_nil, o_ite, o_asg, o_ret, o_own, o_cel, o_app, o_setC, e_var, e_peek, e_lit, e_bin, e_cmp, e_not, e_and, e_or, e_isk, e_ix, p_no, p_at, e_slice, e_rev, e_tup, e_lst, e_call, e_blt, e_isi, e_sset, e_sumL, e_mth, e_mk, es_cons, es_nil, s_ok, s_bind, s_of, List.map_cons, List.map_nil, List.cons_append, List.nil_append, List.replicate, Nat.reduceSub, List.getElem?_cons_zero, List.getElem?_cons_succ, List.set_cons_zero, List.set_cons_succ, ex_iteo, ex_iteno, ex_some, ex_sl, ex_own, ex_map, ex_bl, ex_int, ex_str, ex_lst, if_tt, if_ff, if_dec, if_not, rd_non, rd_bl, rdd_int, rdd_str, rd_tup, rd_lst, rd_scr, b_add, b_sub, b_mul, b_fdiv, b_mod, b_pow, b_cat, b_catL, b_catT, c_lt, c_gt, c_le, c_ge, c_eq, c_ne, c_eqs, c_nes, c_eqb, c_neb, t_bl, l_str, l_lst, l_tup, l_scr, m_min, m_max, m_tup, m_lst, m_intb, m_inti, i_lst, i_tup, i_str, i_scr, at0, at1, at2, ne_eq, Int.reduceEq, Int.reduceNe, not_false_eq_true, decide_true, decide_false, Int.reduceAbs, Int.reduceLE, Int.reduceLT, Int.reduceToNat, Int.reduceAdd, Nat.reduceLT, Nat.reduceLeDiff, Nat.reducePow, Bool.and_self, Bool.true_and, true_and, and_true, List.length_cons, List.length_nil, Nat.reduceAdd, i_seq, i_rng1, i_rng2, o_expr, o_retn, o_pass, o_retown, o_frz, o_appC, e_neg, e_kon, e_lset, e_chain, e_sumL, sz, w_tup, w_lst, w_str, ex_tup, set_nil, set_cons, ty_str, ty_lst, ty_tup, ty_bool, o_asgTu, Bool.not_true, Bool.not_false, i_own, i_cel, o_rem, if_true, if_false]
    refine ⟨.str t, ek, name_sat e1 e2 e3 st4 (by omega) _ fun t2 h4 ht2 st5 x5 => ?_⟩
    refine ⟨by omega, st5.mono (by push_cast; omega), x3.trans (x4.trans x5), xs ++ [.tup [.str t, .str t2]], _, rfl, by rw [List.length_append, el]; rfl, ?_⟩
    intro y hy
    rw [List.mem_append, List.mem_singleton] at hy
    rcases hy with hy | rfl
    · exact hx y hy
    · exact ⟨t, t2, rfl, ht, ht2⟩
  · rintro σ h' ⟨st3, x3, xs, s2, rfl, el, hx⟩
    rw [rngL_n] at el st3
    simp only [o_cons, o_nil, o_ite, o_asg, o_ret, o_own, o_cel, o_app, o_setC, e_var, e_peek, e_lit, e_bin, e_cmp, e_not, e_and, e_or, e_isk, e_ix, p_no, p_at, e_slice, e_rev, e_tup, e_lst, e_call, e_blt, e_isi, e_sset, e_sumL, e_mth, e_mk, es_cons, es_nil, s_ok, s_bind, s_of, List.map_cons, List.map_nil, List.cons_append, List.nil_append, List.replicate, Nat.reduceSub, List.getElem?_cons_zero, List.getElem?_cons_succ, List.set_cons_zero, List.set_cons_succ, ex_iteo, ex_iteno, ex_some, ex_sl, ex_own, ex_map, ex_bl, ex_int, ex_str, ex_lst, if_tt, if_ff, if_dec, if_not, rd_non, rd_bl, rdd_int, rdd_str, rd_tup, rd_lst, rd_scr, b_add, b_sub, b_mul, b_fdiv, b_mod, b_pow, b_cat, b_catL, b_catT, c_lt, c_gt, c_le, c_ge, c_eq, c_ne, c_eqs, c_nes, c_eqb, c_neb, t_bl, l_str, l_lst, l_tup, l_scr, m_min, m_max, m_tup, m_lst, m_intb, m_inti, i_lst, i_tup, i_str, i_scr, at0, at1, at2, ne_eq, Int.reduceEq, Int.reduceNe, not_false_eq_true, decide_true, decide_false, Int.reduceAbs, Int.reduceLE, Int.reduceLT, Int.reduceToNat, Int.reduceAdd, Nat.reduceLT, Nat.reduceLeDiff, Nat.reducePow, Bool.and_self, Bool.true_and, true_and, and_true, List.length_cons, List.length_nil, Nat.reduceAdd, i_seq, i_rng1, i_rng2, o_expr, o_retn, o_pass, o_retown, o_frz, o_appC, e_neg, e_kon, e_lset, e_chain, e_sumL, sz, w_tup, w_lst, w_str, ex_tup, set_nil, set_cons, ty_str, ty_lst, ty_tup, ty_bool, o_asgTu, Bool.not_true, Bool.not_false, i_own, i_cel, o_rem, if_true, if_false]
    have l6 : (1 + k2).toNat ≤ 6 := by omega
    refine ⟨_, sset_ts (by omega) (fun x hx' => (hx x hx').ts), _, rfl, q _ h' ?_ ?_ ?_ (st3.mono (by omega)) x3⟩
    · rw [sort_len]; exact Nat.le_trans dedup_len (by omega)
    · intro e
      have l : (sort (dedup xs)).length = 0 := by rw [e]; rfl
      rw [sort_len, List.length_eq_zero_iff] at l
      cases xs with
      | nil => simp at el; omega
      | cons y r => exact dedup_pos l
    · exact fun x hx' => hx x (dedup_mem (sort_mem.mp hx'))
end Lb.Dr
end
section
set_option Elab.async false
set_option linter.all false
set_option maxRecDepth 100000
namespace Lb.Rl
open Lb Lb.Dr
def fd_rule : Fd := ⟨3, 7, (.cons (.asg (.nm 3) (.call 73 (.cons (.var 0) (.cons (.lit (.int 6)) .nil))))
    (.cons (.ite (.and (.cmp .lt (.var 3) (.lit (.int 3))) (.and (.cmp .gt (.var 2) (.lit (.int 1))) (.cmp .gt (.var 1) (.lit (.int 1)))))
    (.cons (.asg (.nm 4) (.bin .add (.lit (.int 1)) (.call 73 (.cons (.var 0) (.cons (.blt .min2 (.cons (.lit (.int 6)) (.cons (.bin .sub (.var 1) (.lit (.int 1))) .nil))) .nil)))))
    (.cons (.asg (.nm 5) (.comp (.nm 6) (.rng1 (.var 4)) (.call 81 (.cons (.var 0) (.cons (.bin .fdiv (.bin .sub (.var 1) (.lit (.int 1))) (.var 4)) (.cons (.bin .sub (.var 2) (.lit (.int 1))) .nil))))))
    (.cons (.ret (.tup (.cons (.lit (.str [115, 111, 109, 101])) (.cons (.bin .add (.lit (.int 1)) (.call 73 (.cons (.var 0) (.cons (.var 4) .nil)))) (.cons (.blt .tup (.cons (.var 5) .nil)) .nil)))))
    .nil)))
    .nil)
    (.cons (.ite (.cmp .eq (.var 3) (.lit (.int 4)))
    (.cons (.ret (.tup (.cons (.lit (.str [111, 102])) (.cons (.call 75 (.cons (.var 0) .nil)) .nil))))
    .nil)
    .nil)
    (.cons (.ite (.cmp .eq (.var 3) (.lit (.int 5)))
    (.cons (.ret (.tup (.cons (.lit (.str [119, 105, 116, 104])) (.cons (.call 74 (.cons (.var 0) .nil)) (.cons (.call 74 (.cons (.var 0) .nil)) .nil)))))
    .nil)
    .nil)
    (.cons (.ret (.tup (.cons (.lit (.str [97, 110, 121])) .nil)))
    .nil)))))⟩
def fd_atomsP : Fd := ⟨1, 3, (.cons (.ite (.cmp .ne (.ix (.var 0) (.lit (.int 0))) (.lit (.str [115, 111, 109, 101])))
    (.cons (.ret (.mk (.lst (.cons (.var 0) .nil))))
    .nil)
    .nil)
    (.cons (.own 1 (.lst .nil))
    (.cons (.for_ (.nm 2) (.seq (.ix (.var 0) (.lit (.int 2))))
    (.cons (.own 1 (.bin .add (.peek 1) (.call 216 (.cons (.var 2) .nil))))
    .nil))
    (.cons (.cel 1)
    (.cons (.ret (.var 1))
    .nil)))))⟩
def fd_holdsF : Fd := ⟨3, 5, (.cons (.ite (.cmp .ne (.ix (.var 0) (.lit (.int 0))) (.lit (.str [115, 111, 109, 101])))
    (.cons (.ret (.cmp .isin (.var 2) (.var 1)))
    .nil)
    .nil)
    (.cons (.asg (.nm 3) (.lit (.int 0)))
    (.cons (.for_ (.nm 4) (.seq (.ix (.var 0) (.lit (.int 2))))
    (.cons (.ite (.call 217 (.cons (.var 4) (.cons (.var 1) (.cons (.var 2) .nil))))
    (.cons (.asg (.nm 3) (.bin .add (.var 3) (.lit (.int 1))))
    .nil)
    .nil)
    (.cons (.asg (.nm 2) (.bin .add (.var 2) (.blt .len (.cons (.call 216 (.cons (.var 4) .nil)) .nil))))
    .nil)))
    (.cons (.ret (.cmp .ge (.var 3) (.ix (.var 0) (.lit (.int 1)))))
    .nil))))⟩
def fd_holds : Fd := ⟨2, 2, (.cons (.ret (.call 217 (.cons (.var 0) (.cons (.var 1) (.cons (.lit (.int 0)) .nil)))))
    .nil)⟩
structure En (E : Env) : Prop where
  cell : E 72 = some fd_cell
  take : E 73 = some fd_take
  name : E 74 = some fd_name
  who : E 75 = some fd_who
  rule : E 81 = some fd_rule
  atomsP : E 216 = some fd_atomsP
  holdsF : E 217 = some fd_holdsF
  holds : E 218 = some fd_holds
abbrev tSome : Tx := [115, 111, 109, 101]
def At (d : D) : Prop := (∃ s r, d = .tup (.str s :: r) ∧ s ≠ tSome) ∧ Pd 3 d
def Ru : Nat → D → Prop
  | 0, d => At d
  | n + 1, d => At d ∨ ∃ k rs, d = .tup [.str tSome, .int k, .tup rs] ∧ rs.length ≤ 6 ∧ ∀ r ∈ rs, Ru n r
theorem Ru.of_at {n : Nat} {d : D} (h : At d) : Ru n d := by
  cases n with
  | zero => exact h
  | succ n => exact .inl h
theorem at_any : At (.tup [.str [97, 110, 121]]) := ⟨⟨_, _, rfl, by decide⟩, (Pd.tup (n := 0) fun x hx => by rw [List.mem_singleton] at hx; subst hx; exact Pd.str (by decide)).mono (by omega)⟩
theorem at_with {t t' : Tx} (h : isNm t) (h' : isNm t') : At (.tup [.str [119, 105, 116, 104], .str t, .str t']) := ⟨⟨_, _, rfl, by decide⟩, (Pd.tup (n := 0) fun x hx => by
  rcases List.mem_cons.mp hx with rfl | hx
  · exact Pd.str (by decide)
  rcases List.mem_cons.mp hx with rfl | hx
  · exact h.pd
  rw [List.mem_singleton] at hx; subst hx; exact h'.pd).mono (by omega)⟩
theorem at_of {xs : List D} (h : ∀ x ∈ xs, isPt x) : At (.tup [.str [111, 102], .tup xs]) := ⟨⟨_, _, rfl, by decide⟩, Pd.tup (n := 2) fun x hx => by
  rcases List.mem_cons.mp hx with rfl | hx
  · exact (Pd.str (by decide)).mono (by omega)
  rw [List.mem_singleton] at hx; subst hx; exact Pd.tup (n := 1) fun x hx => (h x hx).pd⟩
variable {E : Env} (e : En E)
include e
theorem rule_sat : ∀ (d N a : Nat) (ns : List Int) (room B : Int) (h : Heap), d + 5 ≤ N → 1 ≤ room → room ≤ 24 → Dst a ns B h → B + 60 * room < 2 ^ 60 → ∀ (P : D → Heap → Prop),
    (∀ r h', Ru d r → Dst a ns (B + 60 * room) h' → Dxt a h h' → P r h') → sat (callN E N 81 [.cell a, .int room, .int (d + 1)] h) P := by
  intro d
  induction d with
  | zero =>
    intro N a ns room B h hN r1 r24 st hB P q
    obtain ⟨M, rfl⟩ : ∃ M, N = M + 5 := ⟨N - 5, by omega⟩
    refine call_sat e.rule rfl ?_
    unfold fd_rule
    simp only [o_cons, o_nil, o_ite, o_asg, o_ret, o_own, o_cel, o_app, o_setC, e_var, e_peek, e_lit, e_bin, e_cmp, e_not, e_and, e_or, e_isk, e_ix, p_no, p_at, e_slice, e_rev, e_tup, e_lst, e_call, e_blt, e_isi, e_sset, e_sumL, e_mth, e_mk, es_cons, es_nil, s_ok, s_bind, s_of, List.map_cons, List.map_nil, List.cons_append, List.nil_append, List.replicate, Nat.reduceSub, List.getElem?_cons_zero, List.getElem?_cons_succ, List.set_cons_zero, List.set_cons_succ, ex_iteo, ex_iteno, ex_some, ex_sl, ex_own, ex_map, ex_bl, ex_int, ex_str, ex_lst, if_tt, if_ff, if_dec, if_not, rd_non, rd_bl, rdd_int, rdd_str, rd_tup, rd_lst, rd_scr, b_add, b_sub, b_mul, b_fdiv, b_mod, b_pow, b_cat, b_catL, b_catT, c_lt, c_gt, c_le, c_ge, c_eq, c_ne, c_eqs, c_nes, c_eqb, c_neb, t_bl, l_str, l_lst, l_tup, l_scr, m_min, m_max, m_tup, m_lst, m_intb, m_inti, i_lst, i_tup, i_str, i_scr, at0, at1, at2, ne_eq, Int.reduceEq, Int.reduceNe, not_false_eq_true, decide_true, decide_false, Int.reduceAbs, Int.reduceLE, Int.reduceLT, Int.reduceToNat, Int.reduceAdd, Nat.reduceLT, Nat.reduceLeDiff, Nat.reducePow, Bool.and_self, Bool.true_and, true_and, and_true, List.length_cons, List.length_nil, Nat.reduceAdd, i_seq, i_rng1, i_rng2, o_expr, o_retn, o_pass, o_retown, o_frz, o_appC, e_neg, e_kon, e_lset, e_chain, e_sumL, sz, w_tup, w_lst, w_str, ex_tup, set_nil, set_cons, ty_str, ty_lst, ty_tup, ty_bool, o_asgTu, Bool.not_true, Bool.not_false, i_own, i_cel, o_rem, if_true, if_false]
    refine take_sat e.cell e.take st (by omega) (by omega) (by omega) _ fun k h1 k0 k3 st1 x1 => ?_
    simp only [o_cons, o_nil, o_ite, o_asg, o_ret, o_own, o_cel, o_app, o_setC, e_var, e_peek, e_lit, e_bin, e_cmp, e_not, e_and, e_or, e_isk, e_ix, p_no, p_at, e_slice, e_rev, e_tup, e_lst, e_call, e_blt, e_isi, e_sset, e_sumL, e_mth, e_mk, es_cons, es_nil, s_ok, s_bind, s_of, List.map_cons, List.map_nil, List.cons_append, List.nil_append, List.replicate, Nat.reduceSub, List.getElem?_cons_zero, List.getElem?_cons_succ, List.set_cons_zero, List.set_cons_succ, ex_iteo, ex_iteno, ex_some, ex_sl, ex_own, ex_map, ex_bl, ex_int, ex_str, ex_lst, if_tt, if_ff, if_dec, if_not, rd_non, rd_bl, rdd_int, rdd_str, rd_tup, rd_lst, rd_scr, b_add, b_sub, b_mul, b_fdiv, b_mod, b_pow, b_cat, b_catL, b_catT, c_lt, c_gt, c_le, c_ge, c_eq, c_ne, c_eqs, c_nes, c_eqb, c_neb, t_bl, l_str, l_lst, l_tup, l_scr, m_min, m_max, m_tup, m_lst, m_intb, m_inti, i_lst, i_tup, i_str, i_scr, at0, at1, at2, ne_eq, Int.reduceEq, Int.reduceNe, not_false_eq_true, decide_true, decide_false, Int.reduceAbs, Int.reduceLE, Int.reduceLT, Int.reduceToNat, Int.reduceAdd, Nat.reduceLT, Nat.reduceLeDiff, Nat.reducePow, Bool.and_self, Bool.true_and, true_and, and_true, List.length_cons, List.length_nil, Nat.reduceAdd, i_seq, i_rng1, i_rng2, o_expr, o_retn, o_pass, o_retown, o_frz, o_appC, e_neg, e_kon, e_lset, e_chain, e_sumL, sz, w_tup, w_lst, w_str, ex_tup, set_nil, set_cons, ty_str, ty_lst, ty_tup, ty_bool, o_asgTu, Bool.not_true, Bool.not_false, i_own, i_cel, o_rem, if_true, if_false]
    have tail : if k = 4 then sat (callN E (M + 4) 75 [D.cell a] h1) fun x h1 => P (D.tup [D.str [111, 102], x]) h1
      else
        if k = 5 then
          sat (callN E (M + 4) 74 [D.cell a] h1) fun x h1 =>
            sat (callN E (M + 4) 74 [D.cell a] h1) fun x_1 h1 => P (D.tup [D.str [119, 105, 116, 104], x, x_1]) h1
        else P (D.tup [D.str [97, 110, 121]]) h1 := by
      split
      · refine who_sat e.cell e.take e.name e.who st1 (by omega) _ fun xs h2 _ _ hx st2 x2 => ?_
        exact q _ _ (Ru.of_at (at_of hx)) (st2.mono (by omega)) (x1.trans x2)
      · split
        · refine name_sat e.cell e.take e.name st1 (by omega) _ fun t h2 ht st2 x2 => ?_
          refine name_sat e.cell e.take e.name st2 (by omega) _ fun t' h3 ht' st3 x3 => ?_
          exact q _ _ (Ru.of_at (at_with ht ht')) (st3.mono (by omega)) (x1.trans (x2.trans x3))
        · exact q _ _ (Ru.of_at at_any) (st1.mono (by omega)) x1
    rw [if_neg (show ¬ (1 : Int) < ((0 : Nat) : Int) + 1 from by omega)]
    rw [ite_self]
    exact tail
  | succ d ih =>
    intro N a ns room B h hN r1 r24 st hB P q
    obtain ⟨M, rfl⟩ : ∃ M, N = M + 5 := ⟨N - 5, by omega⟩
    refine call_sat e.rule rfl ?_
    unfold fd_rule
    simp only [o_cons, o_nil, o_ite, o_asg, o_ret, o_own, o_cel, o_app, o_setC, e_var, e_peek, e_lit, e_bin, e_cmp, e_not, e_and, e_or, e_isk, e_ix, p_no, p_at, e_slice, e_rev, e_tup, e_lst, e_call, e_blt, e_isi, e_sset, e_sumL, e_mth, e_mk, es_cons, es_nil, s_ok, s_bind, s_of, List.map_cons, List.map_nil, List.cons_append, List.nil_append, List.replicate, Nat.reduceSub, List.getElem?_cons_zero, List.getElem?_cons_succ, List.set_cons_zero, List.set_cons_succ, ex_iteo, ex_iteno, ex_some, ex_sl, ex_own, ex_map, ex_bl, ex_int, ex_str, ex_lst, if_tt, if_ff, if_dec, if_not, rd_non, rd_bl, rdd_int, rdd_str, rd_tup, rd_lst, rd_scr, b_add, b_sub, b_mul, b_fdiv, b_mod, b_pow, b_cat, b_catL, b_catT, c_lt, c_gt, c_le, c_ge, c_eq, c_ne, c_eqs, c_nes, c_eqb, c_neb, t_bl, l_str, l_lst, l_tup, l_scr, m_min, m_max, m_tup, m_lst, m_intb, m_inti, i_lst, i_tup, i_str, i_scr, at0, at1, at2, ne_eq, Int.reduceEq, Int.reduceNe, not_false_eq_true, decide_true, decide_false, Int.reduceAbs, Int.reduceLE, Int.reduceLT, Int.reduceToNat, Int.reduceAdd, Nat.reduceLT, Nat.reduceLeDiff, Nat.reducePow, Bool.and_self, Bool.true_and, true_and, and_true, List.length_cons, List.length_nil, Nat.reduceAdd, i_seq, i_rng1, i_rng2, o_expr, o_retn, o_pass, o_retown, o_frz, o_appC, e_neg, e_kon, e_lset, e_chain, e_sumL, sz, w_tup, w_lst, w_str, ex_tup, set_nil, set_cons, ty_str, ty_lst, ty_tup, ty_bool, o_asgTu, Bool.not_true, Bool.not_false, i_own, i_cel, o_rem, if_true, if_false]
    refine take_sat e.cell e.take st (by omega) (by omega) (by omega) _ fun k h1 k0 k3 st1 x1 => ?_
    simp only [o_cons, o_nil, o_ite, o_asg, o_ret, o_own, o_cel, o_app, o_setC, e_var, e_peek, e_lit, e_bin, e_cmp, e_not, e_and, e_or, e_isk, e_ix, p_no, p_at, e_slice, e_rev, e_tup, e_lst, e_call, e_blt, e_isi, e_sset, e_sumL, e_mth, e_mk, es_cons, es_nil, s_ok, s_bind, s_of, List.map_cons, List.map_nil, List.cons_append, List.nil_append, List.replicate, Nat.reduceSub, List.getElem?_cons_zero, List.getElem?_cons_succ, List.set_cons_zero, List.set_cons_succ, ex_iteo, ex_iteno, ex_some, ex_sl, ex_own, ex_map, ex_bl, ex_int, ex_str, ex_lst, if_tt, if_ff, if_dec, if_not, rd_non, rd_bl, rdd_int, rdd_str, rd_tup, rd_lst, rd_scr, b_add, b_sub, b_mul, b_fdiv, b_mod, b_pow, b_cat, b_catL, b_catT, c_lt, c_gt, c_le, c_ge, c_eq, c_ne, c_eqs, c_nes, c_eqb, c_neb, t_bl, l_str, l_lst, l_tup, l_scr, m_min, m_max, m_tup, m_lst, m_intb, m_inti, i_lst, i_tup, i_str, i_scr, at0, at1, at2, ne_eq, Int.reduceEq, Int.reduceNe, not_false_eq_true, decide_true, decide_false, Int.reduceAbs, Int.reduceLE, Int.reduceLT, Int.reduceToNat, Int.reduceAdd, Nat.reduceLT, Nat.reduceLeDiff, Nat.reducePow, Bool.and_self, Bool.true_and, true_and, and_true, List.length_cons, List.length_nil, Nat.reduceAdd, i_seq, i_rng1, i_rng2, o_expr, o_retn, o_pass, o_retown, o_frz, o_appC, e_neg, e_kon, e_lset, e_chain, e_sumL, sz, w_tup, w_lst, w_str, ex_tup, set_nil, set_cons, ty_str, ty_lst, ty_tup, ty_bool, o_asgTu, Bool.not_true, Bool.not_false, i_own, i_cel, o_rem, if_true, if_false]
    have tail : if k = 4 then sat (callN E (M + 4) 75 [D.cell a] h1) fun x h1 => P (D.tup [D.str [111, 102], x]) h1
      else
        if k = 5 then
          sat (callN E (M + 4) 74 [D.cell a] h1) fun x h1 =>
            sat (callN E (M + 4) 74 [D.cell a] h1) fun x_1 h1 => P (D.tup [D.str [119, 105, 116, 104], x, x_1]) h1
        else P (D.tup [D.str [97, 110, 121]]) h1 := by
      split
      · refine who_sat e.cell e.take e.name e.who st1 (by omega) _ fun xs h2 _ _ hx st2 x2 => ?_
        exact q _ _ (Ru.of_at (at_of hx)) (st2.mono (by omega)) (x1.trans x2)
      · split
        · refine name_sat e.cell e.take e.name st1 (by omega) _ fun t h2 ht st2 x2 => ?_
          refine name_sat e.cell e.take e.name st2 (by omega) _ fun t' h3 ht' st3 x3 => ?_
          exact q _ _ (Ru.of_at (at_with ht ht')) (st3.mono (by omega)) (x1.trans (x2.trans x3))
        · exact q _ _ (Ru.of_at at_any) (st1.mono (by omega)) x1
    by_cases c1 : k < 3
    case neg => rw [if_neg c1]; exact tail
    rw [if_pos c1, if_pos (show (1 : Int) < ((d + 1 : Nat) : Int) + 1 from by omega)]
    by_cases c2 : 1 < room
    case neg => rw [if_neg c2]; exact tail
    rw [if_pos c2]
    clear tail
    have mm : ∃ m, (if room - 1 < 6 then room - 1 else 6) = m ∧ 1 ≤ m ∧ m ≤ 6 ∧ m ≤ room - 1 := ⟨_, rfl, by split <;> omega, by split <;> omega, by split <;> omega⟩
    obtain ⟨m, em, m1, m6, mr⟩ := mm
    rw [em]
    refine take_sat e.cell e.take st1 (by omega) (by omega) (by omega) _ fun k2 h2 k20 k2m st2 x2 => ?_
    simp only [o_cons, o_nil, o_ite, o_asg, o_ret, o_own, o_cel, o_app, o_setC, e_var, e_peek, e_lit, e_bin, e_cmp, e_not, e_and, e_or, e_isk, e_ix, p_no, p_at, e_slice, e_rev, e_tup, e_lst, e_call, e_blt, e_isi, e_sset, e_sumL, e_mth, e_mk, es_cons, es_nil, s_ok, s_bind, s_of, List.map_cons, List.map_nil, List.cons_append, List.nil_append, List.replicate, Nat.reduceSub, List.getElem?_cons_zero, List.getElem?_cons_succ, List.set_cons_zero, List.set_cons_succ, ex_iteo, ex_iteno, ex_some, ex_sl, ex_own, ex_map, ex_bl, ex_int, ex_str, ex_lst, if_tt, if_ff, if_dec, if_not, rd_non, rd_bl, rdd_int, rdd_str, rd_tup, rd_lst, rd_scr, b_add, b_sub, b_mul, b_fdiv, b_mod, b_pow, b_cat, b_catL, b_catT, c_lt, c_gt, c_le, c_ge, c_eq, c_ne, c_eqs, c_nes, c_eqb, c_neb, t_bl, l_str, l_lst, l_tup, l_scr, m_min, m_max, m_tup, m_lst, m_intb, m_inti, i_lst, i_tup, i_str, i_scr, at0, at1, at2, ne_eq, Int.reduceEq, Int.reduceNe, not_false_eq_true, decide_true, decide_false, Int.reduceAbs, Int.reduceLE, Int.reduceLT, Int.reduceToNat, Int.reduceAdd, Nat.reduceLT, Nat.reduceLeDiff, Nat.reducePow, Bool.and_self, Bool.true_and, true_and, and_true, List.length_cons, List.length_nil, Nat.reduceAdd, i_seq, i_rng1, i_rng2, o_expr, o_retn, o_pass, o_retown, o_frz, o_appC, e_neg, e_kon, e_lset, e_chain, e_sumL, sz, w_tup, w_lst, w_str, ex_tup, set_nil, set_cons, ty_str, ty_lst, ty_tup, ty_bool, o_asgTu, Bool.not_true, Bool.not_false, i_own, i_cel, o_rem, if_true, if_false]
    obtain ⟨s, es⟩ : ∃ s, 1 + k2 = s := ⟨_, rfl⟩
    rw [es]
    refine e_comp ?_
    simp only [o_cons, o_nil, o_ite, o_asg, o_ret, o_own, o_cel, o_app, o_setC, e_var, e_peek, e_lit, e_bin, e_cmp, e_not, e_and, e_or, e_isk, e_ix, p_no, p_at, e_slice, e_rev, e_tup, e_lst, e_call, e_blt, e_isi, e_sset, e_sumL, e_mth, e_mk, es_cons, es_nil, s_ok, s_bind, s_of, List.map_cons, List.map_nil, List.cons_append, List.nil_append, List.replicate, Nat.reduceSub, List.getElem?_cons_zero, List.getElem?_cons_succ, List.set_cons_zero, List.set_cons_succ, ex_iteo, ex_iteno, ex_some, ex_sl, ex_own, ex_map, ex_bl, ex_int, ex_str, ex_lst, if_tt, if_ff, if_dec, if_not, rd_non, rd_bl, rdd_int, rdd_str, rd_tup, rd_lst, rd_scr, b_add, b_sub, b_mul, b_fdiv, b_mod, b_pow, b_cat, b_catL, b_catT, c_lt, c_gt, c_le, c_ge, c_eq, c_ne, c_eqs, c_nes, c_eqb, c_neb, t_bl, l_str, l_lst, l_tup, l_scr, m_min, m_max, m_tup, m_lst, m_intb, m_inti, i_lst, i_tup, i_str, i_scr, at0, at1, at2, ne_eq, Int.reduceEq, Int.reduceNe, not_false_eq_true, decide_true, decide_false, Int.reduceAbs, Int.reduceLE, Int.reduceLT, Int.reduceToNat, Int.reduceAdd, Nat.reduceLT, Nat.reduceLeDiff, Nat.reducePow, Bool.and_self, Bool.true_and, true_and, and_true, List.length_cons, List.length_nil, Nat.reduceAdd, i_seq, i_rng1, i_rng2, o_expr, o_retn, o_pass, o_retown, o_frz, o_appC, e_neg, e_kon, e_lset, e_chain, e_sumL, sz, w_tup, w_lst, w_str, ex_tup, set_nil, set_cons, ty_str, ty_lst, ty_tup, ty_bool, o_asgTu, Bool.not_true, Bool.not_false, i_own, i_cel, o_rem, if_true, if_false, Tg.slots, wipe]
    obtain ⟨w, ew⟩ : ∃ w, (room - 1).fdiv s = w := ⟨_, rfl⟩
    have ws : w * s ≤ room - 1 := by
      rw [← ew, Int.fdiv_eq_ediv_of_nonneg _ (by omega)]
      exact Int.ediv_mul_le _ (by omega)
    have w1 : 1 ≤ w := by
      rw [← ew, Int.fdiv_eq_ediv_of_nonneg _ (by omega)]
      exact (Int.le_ediv_iff_mul_le (by omega)).mpr (by omega)
    have w24 : w ≤ 24 := by
      have : w * 1 ≤ w * s := Int.mul_le_mul_of_nonneg_left (by omega) (by omega)
      omega
    refine ⟨rng_in (by omega) (by omega), fun j acc h' => Dst a ns (B + 2 + 60 * (w * j)) h' ∧ Dxt a h h' ∧ ∀ r ∈ acc, Ru d r, ⟨st2.mono (by omega), x1.trans x2, by simp⟩, ?_, ?_⟩
    · rintro j x acc h' ex el ⟨st3, x3, hr⟩
      obtain ⟨rfl, lj⟩ := rngL_at ex
      have wj : w * ((j : Int) + 1) ≤ w * s := Int.mul_le_mul_of_nonneg_left (by omega) (by omega)
      have wj2 : w * ((j : Int) + 1) = w * j + w := by rw [Int.mul_add, Int.mul_one]
      refine ⟨_, rfl, ?_⟩
      simp only [o_cons, o_nil, o_ite, o_asg, o_ret, o_own, o_cel, o_app, o_setC, e_var, e_peek, e_lit, e_bin, e_cmp, e_not, e_and, e_or, e_isk, e_ix, p_no, p_at, e_slice, e_rev, e_tup, e_lst, e_call, e_blt, e_isi, e_sset, e_sumL, e_mth, e_mk, es_cons, es_nil, s_ok, s_bind, s_of, List.map_cons, List.map_nil, List.cons_append, List.nil_append, List.replicate, Nat.reduceSub, List.getElem?_cons_zero, List.getElem?_cons_succ, List.set_cons_zero, List.set_cons_succ, ex_iteo, ex_iteno, ex_some, ex_sl, ex_own, ex_map, ex_bl, ex_int, ex_str, ex_lst, if_tt, if_ff, if_dec, if_not, rd_non, rd_bl, rdd_int, rdd_str, rd_tup, rd_lst, rd_scr, b_add, b_sub, b_mul, b_fdiv, b_mod, b_pow, b_cat, b_catL, b_catT, c_lt, c_gt, c_le, c_ge, c_eq, c_ne, c_eqs, c_nes, c_eqb, c_neb, t_bl, l_str, l_lst, l_tup, l_scr, m_min, m_max, m_tup, m_lst, m_intb, m_inti, i_lst, i_tup, i_str, i_scr, at0, at1, at2, ne_eq, Int.reduceEq, Int.reduceNe, not_false_eq_true, decide_true, decide_false, Int.reduceAbs, Int.reduceLE, Int.reduceLT, Int.reduceToNat, Int.reduceAdd, Nat.reduceLT, Nat.reduceLeDiff, Nat.reducePow, Bool.and_self, Bool.true_and, true_and, and_true, List.length_cons, List.length_nil, Nat.reduceAdd, i_seq, i_rng1, i_rng2, o_expr, o_retn, o_pass, o_retown, o_frz, o_appC, e_neg, e_kon, e_lset, e_chain, e_sumL, sz, w_tup, w_lst, w_str, ex_tup, set_nil, set_cons, ty_str, ty_lst, ty_tup, ty_bool, o_asgTu, Bool.not_true, Bool.not_false, i_own, i_cel, o_rem, if_true, if_false]
      refine ⟨by rw [Bool.and_eq_true, decide_eq_true_eq, decide_eq_true_eq]; omega, ?_⟩
      rw [ew, show ((d + 1 : Nat) : Int) + 1 - 1 = (d : Int) + 1 from by push_cast; omega]
      refine ih (M + 4) a ns w _ h' (by omega) w1 w24 st3 (by omega) _ fun r h3 hr3 st4 x4 => ?_
      refine ⟨st4.mono (by push_cast; omega), x3.trans x4, fun r' hr' => ?_⟩
      rcases List.mem_append.mp hr' with z | z
      · exact hr _ z
      · rw [List.mem_singleton] at z; rw [z]; exact hr3
    · rintro acc h' el ⟨st3, x3, hr⟩
      rw [rngL_n] at el st3
      have e1 : ((s.toNat : Nat) : Int) = s := by omega
      rw [e1] at st3
      refine ⟨by omega, ?_⟩
      refine take_sat e.cell e.take st3 (by omega) (by omega) (by omega) _ fun k5 h5 _ _ st5 x5 => ?_
      simp only [o_cons, o_nil, o_ite, o_asg, o_ret, o_own, o_cel, o_app, o_setC, e_var, e_peek, e_lit, e_bin, e_cmp, e_not, e_and, e_or, e_isk, e_ix, p_no, p_at, e_slice, e_rev, e_tup, e_lst, e_call, e_blt, e_isi, e_sset, e_sumL, e_mth, e_mk, es_cons, es_nil, s_ok, s_bind, s_of, List.map_cons, List.map_nil, List.cons_append, List.nil_append, List.replicate, Nat.reduceSub, List.getElem?_cons_zero, List.getElem?_cons_succ, List.set_cons_zero, List.set_cons_succ, ex_iteo, ex_iteno, ex_some, ex_sl, ex_own, ex_map, ex_bl, ex_int, ex_str, ex_lst, if_tt, if_ff, if_dec, if_not, rd_non, rd_bl, rdd_int, rdd_str, rd_tup, rd_lst, rd_scr, b_add, b_sub, b_mul, b_fdiv, b_mod, b_pow, b_cat, b_catL, b_catT, c_lt, c_gt, c_le, c_ge, c_eq, c_ne, c_eqs, c_nes, c_eqb, c_neb, t_bl, l_str, l_lst, l_tup, l_scr, m_min, m_max, m_tup, m_lst, m_intb, m_inti, i_lst, i_tup, i_str, i_scr, at0, at1, at2, ne_eq, Int.reduceEq, Int.reduceNe, not_false_eq_true, decide_true, decide_false, Int.reduceAbs, Int.reduceLE, Int.reduceLT, Int.reduceToNat, Int.reduceAdd, Nat.reduceLT, Nat.reduceLeDiff, Nat.reducePow, Bool.and_self, Bool.true_and, true_and, and_true, List.length_cons, List.length_nil, Nat.reduceAdd, i_seq, i_rng1, i_rng2, o_expr, o_retn, o_pass, o_retown, o_frz, o_appC, e_neg, e_kon, e_lset, e_chain, e_sumL, sz, w_tup, w_lst, w_str, ex_tup, set_nil, set_cons, ty_str, ty_lst, ty_tup, ty_bool, o_asgTu, Bool.not_true, Bool.not_false, i_own, i_cel, o_rem, if_true, if_false]
      exact q _ _ (.inr ⟨_, acc, rfl, by omega, hr⟩) (st5.mono (by omega)) (x3.trans x5)
omit e in
/-- the atoms of a rule -/
def ats : Nat → D → List D
  | 0, d => [d]
  | n + 1, .tup [.str s, .int k, .tup rs] => if s = tSome then rs.flatMap (ats n) else [.tup [.str s, .int k, .tup rs]]
  | _ + 1, d => [d]
omit e in
theorem ats_at {n : Nat} {d : D} (h : At d) : ats n d = [d] := by
  cases n with
  | zero => rfl
  | succ n =>
    obtain ⟨⟨s, r, rfl, hs⟩, _⟩ := h
    unfold ats
    split
    · rfl
    · rename_i z
      cases z
      rw [if_neg hs]
    · rfl
omit e in
theorem ats_some {n : Nat} {k : Int} {rs : List D} : ats (n + 1) (.tup [.str tSome, .int k, .tup rs]) = rs.flatMap (ats n) := if_pos rfl
omit e in
theorem flat_len {α : Type} {f : α → List D} {m : Nat} : ∀ {rs : List α}, (∀ r ∈ rs, (f r).length ≤ m) → (rs.flatMap f).length ≤ rs.length * m
  | [], _ => Nat.zero_le _
  | r :: rs, h => by
    rw [List.flatMap_cons, List.length_append, List.length_cons, Nat.succ_mul]
    have a := h r (by simp)
    have b := flat_len (rs := rs) fun r hr => h r (by simp [hr])
    omega
omit e in
theorem ats_len : ∀ {n : Nat} {d : D}, Ru n d → (ats n d).length ≤ 6 ^ n
  | 0, d, h => Nat.le_refl _
  | n + 1, d, h => by
    rcases h with h | ⟨k, rs, rfl, l, h⟩
    · rw [ats_at h]; exact Nat.one_le_pow _ _ (by decide)
    · rw [ats_some]
      refine Nat.le_trans (flat_len fun r hr => ats_len (h r hr)) ?_
      rw [Nat.pow_succ, Nat.mul_comm (6 ^ n)]
      exact Nat.mul_le_mul_right _ l
omit e in
theorem ats_len4 {n : Nat} {d : D} (h : Ru n d) (l : n ≤ 4) : (ats n d).length ≤ 1296 :=
  Nat.le_trans (ats_len h) (Nat.pow_le_pow_right (by decide) l : 6 ^ n ≤ 6 ^ 4)
omit e in
theorem ats_pd : ∀ {n : Nat} {d : D}, Ru n d → ∀ x ∈ ats n d, Pd 3 x
  | 0, d, h => fun x hx => by
    rw [show ats 0 d = [d] from rfl, List.mem_singleton] at hx; rw [hx]; exact h.2
  | n + 1, d, h => fun x hx => by
    rcases h with h | ⟨k, rs, rfl, l, h⟩
    · rw [ats_at h, List.mem_singleton] at hx; rw [hx]; exact h.2
    · rw [ats_some, List.mem_flatMap] at hx
      obtain ⟨r, hr, hx⟩ := hx
      exact ats_pd (h r hr) x hx
omit e in
theorem lists_map {f : D → List D} : ∀ {rs : List D}, lists (rs.map fun r => .lst (f r)) = some (rs.map f)
  | [] => rfl
  | r :: rs => by
    show (lists (rs.map fun r => .lst (f r))).map _ = _
    rw [lists_map (rs := rs)]; rfl
omit e in
theorem flat_take {n j : Nat} {rs : List D} {r : D} (ex : rs[j]? = some r) : (rs.take (j + 1)).flatMap (ats n) = (rs.take j).flatMap (ats n) ++ ats n r := by
  rw [take_one ex, List.flatMap_append, List.flatMap_cons, List.flatMap_nil, List.append_nil]
omit e in
theorem some_len {n : Nat} {rs : List D} (l : rs.length ≤ 6) (h4 : n ≤ 4) (hr : ∀ r ∈ rs, Ru n r) : (rs.flatMap (ats n)).length ≤ 7776 := by
  have len := flat_len (f := ats n) (m := 1296) (rs := rs) fun r h => ats_len4 (hr r h) h4
  have : rs.length * 1296 ≤ 6 * 1296 := Nat.mul_le_mul_right _ l
  omega
theorem atomsP_sat : ∀ (d N : Nat) (r : D) (h : Heap), d + 1 ≤ N → d ≤ 4 → Ru d r → ∀ (P : D → Heap → Prop), (∀ b h', h'[b]? = some (.lst (ats d r)) → h.length ≤ b → Gr h h' → P (.cell b) h') → sat (callN E N 216 [r] h) P := by
  intro d
  induction d with
  | zero =>
    intro N r h hN h4 hr P q
    obtain ⟨M, rfl⟩ : ∃ M, N = M + 1 := ⟨N - 1, by omega⟩
    rw [ats_at hr] at q
    obtain ⟨⟨s, t, rfl, hs⟩, _⟩ := hr
    refine call_sat e.atomsP rfl ?_
    unfold fd_atomsP
    simp only [o_cons, o_nil, o_ite, o_asg, o_ret, o_own, o_cel, o_app, o_setC, e_var, e_peek, e_lit, e_bin, e_cmp, e_not, e_and, e_or, e_isk, e_ix, p_no, p_at, e_slice, e_rev, e_tup, e_lst, e_call, e_blt, e_isi, e_sset, e_sumL, e_mth, e_mk, es_cons, es_nil, s_ok, s_bind, s_of, List.map_cons, List.map_nil, List.cons_append, List.nil_append, List.replicate, Nat.reduceSub, List.getElem?_cons_zero, List.getElem?_cons_succ, List.set_cons_zero, List.set_cons_succ, ex_iteo, ex_iteno, ex_some, ex_sl, ex_own, ex_map, ex_bl, ex_int, ex_str, ex_lst, if_tt, if_ff, if_dec, if_not, rd_non, rd_bl, rdd_int, rdd_str, rd_tup, rd_lst, rd_scr, b_add, b_sub, b_mul, b_fdiv, b_mod, b_pow, b_cat, b_catL, b_catT, c_lt, c_gt, c_le, c_ge, c_eq, c_ne, c_eqs, c_nes, c_eqb, c_neb, t_bl, l_str, l_lst, l_tup, l_scr, m_min, m_max, m_tup, m_lst, m_intb, m_inti, i_lst, i_tup, i_str, i_scr, at0, at1, at2, ne_eq, Int.reduceEq, Int.reduceNe, not_false_eq_true, decide_true, decide_false, Int.reduceAbs, Int.reduceLE, Int.reduceLT, Int.reduceToNat, Int.reduceAdd, Nat.reduceLT, Nat.reduceLeDiff, Nat.reducePow, Bool.and_self, Bool.true_and, true_and, and_true, List.length_cons, List.length_nil, Nat.reduceAdd, i_seq, i_rng1, i_rng2, o_expr, o_retn, o_pass, o_retown, o_frz, o_appC, e_neg, e_kon, e_lset, e_chain, e_sumL, sz, w_tup, w_lst, w_str, ex_tup, set_nil, set_cons, ty_str, ty_lst, ty_tup, ty_bool, o_asgTu, Bool.not_true, Bool.not_false, i_own, i_cel, o_rem, if_true, if_false]
    rw [if_pos hs]
    exact q _ _ get_app (Nat.le_refl _) Gr.app
  | succ d ih =>
    intro N r h hN h4 hr P q
    obtain ⟨M, rfl⟩ : ∃ M, N = M + 1 := ⟨N - 1, by omega⟩
    refine call_sat e.atomsP rfl ?_
    unfold fd_atomsP
    rcases hr with hr | ⟨k, rs, rfl, l, hr⟩
    · rw [ats_at hr] at q
      obtain ⟨⟨s, t, rfl, hs⟩, _⟩ := hr
      simp only [o_cons, o_nil, o_ite, o_asg, o_ret, o_own, o_cel, o_app, o_setC, e_var, e_peek, e_lit, e_bin, e_cmp, e_not, e_and, e_or, e_isk, e_ix, p_no, p_at, e_slice, e_rev, e_tup, e_lst, e_call, e_blt, e_isi, e_sset, e_sumL, e_mth, e_mk, es_cons, es_nil, s_ok, s_bind, s_of, List.map_cons, List.map_nil, List.cons_append, List.nil_append, List.replicate, Nat.reduceSub, List.getElem?_cons_zero, List.getElem?_cons_succ, List.set_cons_zero, List.set_cons_succ, ex_iteo, ex_iteno, ex_some, ex_sl, ex_own, ex_map, ex_bl, ex_int, ex_str, ex_lst, if_tt, if_ff, if_dec, if_not, rd_non, rd_bl, rdd_int, rdd_str, rd_tup, rd_lst, rd_scr, b_add, b_sub, b_mul, b_fdiv, b_mod, b_pow, b_cat, b_catL, b_catT, c_lt, c_gt, c_le, c_ge, c_eq, c_ne, c_eqs, c_nes, c_eqb, c_neb, t_bl, l_str, l_lst, l_tup, l_scr, m_min, m_max, m_tup, m_lst, m_intb, m_inti, i_lst, i_tup, i_str, i_scr, at0, at1, at2, ne_eq, Int.reduceEq, Int.reduceNe, not_false_eq_true, decide_true, decide_false, Int.reduceAbs, Int.reduceLE, Int.reduceLT, Int.reduceToNat, Int.reduceAdd, Nat.reduceLT, Nat.reduceLeDiff, Nat.reducePow, Bool.and_self, Bool.true_and, true_and, and_true, List.length_cons, List.length_nil, Nat.reduceAdd, i_seq, i_rng1, i_rng2, o_expr, o_retn, o_pass, o_retown, o_frz, o_appC, e_neg, e_kon, e_lset, e_chain, e_sumL, sz, w_tup, w_lst, w_str, ex_tup, set_nil, set_cons, ty_str, ty_lst, ty_tup, ty_bool, o_asgTu, Bool.not_true, Bool.not_false, i_own, i_cel, o_rem, if_true, if_false]
      rw [if_pos hs]
      exact q _ _ get_app (Nat.le_refl _) Gr.app
    · rw [ats_some] at q
      simp only [o_cons, o_nil, o_ite, o_asg, o_ret, o_own, o_cel, o_app, o_setC, e_var, e_peek, e_lit, e_bin, e_cmp, e_not, e_and, e_or, e_isk, e_ix, p_no, p_at, e_slice, e_rev, e_tup, e_lst, e_call, e_blt, e_isi, e_sset, e_sumL, e_mth, e_mk, es_cons, es_nil, s_ok, s_bind, s_of, List.map_cons, List.map_nil, List.cons_append, List.nil_append, List.replicate, Nat.reduceSub, List.getElem?_cons_zero, List.getElem?_cons_succ, List.set_cons_zero, List.set_cons_succ, ex_iteo, ex_iteno, ex_some, ex_sl, ex_own, ex_map, ex_bl, ex_int, ex_str, ex_lst, if_tt, if_ff, if_dec, if_not, rd_non, rd_bl, rdd_int, rdd_str, rd_tup, rd_lst, rd_scr, b_add, b_sub, b_mul, b_fdiv, b_mod, b_pow, b_cat, b_catL, b_catT, c_lt, c_gt, c_le, c_ge, c_eq, c_ne, c_eqs, c_nes, c_eqb, c_neb, t_bl, l_str, l_lst, l_tup, l_scr, m_min, m_max, m_tup, m_lst, m_intb, m_inti, i_lst, i_tup, i_str, i_scr, at0, at1, at2, ne_eq, Int.reduceEq, Int.reduceNe, not_false_eq_true, decide_true, decide_false, Int.reduceAbs, Int.reduceLE, Int.reduceLT, Int.reduceToNat, Int.reduceAdd, Nat.reduceLT, Nat.reduceLeDiff, Nat.reducePow, Bool.and_self, Bool.true_and, true_and, and_true, List.length_cons, List.length_nil, Nat.reduceAdd, i_seq, i_rng1, i_rng2, o_expr, o_retn, o_pass, o_retown, o_frz, o_appC, e_neg, e_kon, e_lset, e_chain, e_sumL, sz, w_tup, w_lst, w_str, ex_tup, set_nil, set_cons, ty_str, ty_lst, ty_tup, ty_bool, o_asgTu, Bool.not_true, Bool.not_false, i_own, i_cel, o_rem, if_true, if_false]
      rw [if_neg (by simp)]
      refine o_for ?_
      simp only [o_cons, o_nil, o_ite, o_asg, o_ret, o_own, o_cel, o_app, o_setC, e_var, e_peek, e_lit, e_bin, e_cmp, e_not, e_and, e_or, e_isk, e_ix, p_no, p_at, e_slice, e_rev, e_tup, e_lst, e_call, e_blt, e_isi, e_sset, e_sumL, e_mth, e_mk, es_cons, es_nil, s_ok, s_bind, s_of, List.map_cons, List.map_nil, List.cons_append, List.nil_append, List.replicate, Nat.reduceSub, List.getElem?_cons_zero, List.getElem?_cons_succ, List.set_cons_zero, List.set_cons_succ, ex_iteo, ex_iteno, ex_some, ex_sl, ex_own, ex_map, ex_bl, ex_int, ex_str, ex_lst, if_tt, if_ff, if_dec, if_not, rd_non, rd_bl, rdd_int, rdd_str, rd_tup, rd_lst, rd_scr, b_add, b_sub, b_mul, b_fdiv, b_mod, b_pow, b_cat, b_catL, b_catT, c_lt, c_gt, c_le, c_ge, c_eq, c_ne, c_eqs, c_nes, c_eqb, c_neb, t_bl, l_str, l_lst, l_tup, l_scr, m_min, m_max, m_tup, m_lst, m_intb, m_inti, i_lst, i_tup, i_str, i_scr, at0, at1, at2, ne_eq, Int.reduceEq, Int.reduceNe, not_false_eq_true, decide_true, decide_false, Int.reduceAbs, Int.reduceLE, Int.reduceLT, Int.reduceToNat, Int.reduceAdd, Nat.reduceLT, Nat.reduceLeDiff, Nat.reducePow, Bool.and_self, Bool.true_and, true_and, and_true, List.length_cons, List.length_nil, Nat.reduceAdd, i_seq, i_rng1, i_rng2, o_expr, o_retn, o_pass, o_retown, o_frz, o_appC, e_neg, e_kon, e_lset, e_chain, e_sumL, sz, w_tup, w_lst, w_str, ex_tup, set_nil, set_cons, ty_str, ty_lst, ty_tup, ty_bool, o_asgTu, Bool.not_true, Bool.not_false, i_own, i_cel, o_rem, if_true, if_false]
      refine ⟨fun j σ h' => Gr h h' ∧ ∃ s2, σ = [.v (.tup [.str tSome, .int k, .tup rs]), .own ((rs.take j).flatMap (ats d)), s2], ⟨Gr.refl, _, rfl⟩, ?_, ?_⟩
      · rintro j x σ h' ex ⟨g, s2, rfl⟩
        refine ⟨_, rfl, ?_⟩
        simp only [o_cons, o_nil, o_ite, o_asg, o_ret, o_own, o_cel, o_app, o_setC, e_var, e_peek, e_lit, e_bin, e_cmp, e_not, e_and, e_or, e_isk, e_ix, p_no, p_at, e_slice, e_rev, e_tup, e_lst, e_call, e_blt, e_isi, e_sset, e_sumL, e_mth, e_mk, es_cons, es_nil, s_ok, s_bind, s_of, List.map_cons, List.map_nil, List.cons_append, List.nil_append, List.replicate, Nat.reduceSub, List.getElem?_cons_zero, List.getElem?_cons_succ, List.set_cons_zero, List.set_cons_succ, ex_iteo, ex_iteno, ex_some, ex_sl, ex_own, ex_map, ex_bl, ex_int, ex_str, ex_lst, if_tt, if_ff, if_dec, if_not, rd_non, rd_bl, rdd_int, rdd_str, rd_tup, rd_lst, rd_scr, b_add, b_sub, b_mul, b_fdiv, b_mod, b_pow, b_cat, b_catL, b_catT, c_lt, c_gt, c_le, c_ge, c_eq, c_ne, c_eqs, c_nes, c_eqb, c_neb, t_bl, l_str, l_lst, l_tup, l_scr, m_min, m_max, m_tup, m_lst, m_intb, m_inti, i_lst, i_tup, i_str, i_scr, at0, at1, at2, ne_eq, Int.reduceEq, Int.reduceNe, not_false_eq_true, decide_true, decide_false, Int.reduceAbs, Int.reduceLE, Int.reduceLT, Int.reduceToNat, Int.reduceAdd, Nat.reduceLT, Nat.reduceLeDiff, Nat.reducePow, Bool.and_self, Bool.true_and, true_and, and_true, List.length_cons, List.length_nil, Nat.reduceAdd, i_seq, i_rng1, i_rng2, o_expr, o_retn, o_pass, o_retown, o_frz, o_appC, e_neg, e_kon, e_lset, e_chain, e_sumL, sz, w_tup, w_lst, w_str, ex_tup, set_nil, set_cons, ty_str, ty_lst, ty_tup, ty_bool, o_asgTu, Bool.not_true, Bool.not_false, i_own, i_cel, o_rem, if_true, if_false]
        refine ih M x h' (by omega) (by omega) (hr x (List.mem_of_getElem? ex)) _ fun b h2 eb lb g2 => ?_
        rw [rd_cell eb]
        simp only [o_cons, o_nil, o_ite, o_asg, o_ret, o_own, o_cel, o_app, o_setC, e_var, e_peek, e_lit, e_bin, e_cmp, e_not, e_and, e_or, e_isk, e_ix, p_no, p_at, e_slice, e_rev, e_tup, e_lst, e_call, e_blt, e_isi, e_sset, e_sumL, e_mth, e_mk, es_cons, es_nil, s_ok, s_bind, s_of, List.map_cons, List.map_nil, List.cons_append, List.nil_append, List.replicate, Nat.reduceSub, List.getElem?_cons_zero, List.getElem?_cons_succ, List.set_cons_zero, List.set_cons_succ, ex_iteo, ex_iteno, ex_some, ex_sl, ex_own, ex_map, ex_bl, ex_int, ex_str, ex_lst, if_tt, if_ff, if_dec, if_not, rd_non, rd_bl, rdd_int, rdd_str, rd_tup, rd_lst, rd_scr, b_add, b_sub, b_mul, b_fdiv, b_mod, b_pow, b_cat, b_catL, b_catT, c_lt, c_gt, c_le, c_ge, c_eq, c_ne, c_eqs, c_nes, c_eqb, c_neb, t_bl, l_str, l_lst, l_tup, l_scr, m_min, m_max, m_tup, m_lst, m_intb, m_inti, i_lst, i_tup, i_str, i_scr, at0, at1, at2, ne_eq, Int.reduceEq, Int.reduceNe, not_false_eq_true, decide_true, decide_false, Int.reduceAbs, Int.reduceLE, Int.reduceLT, Int.reduceToNat, Int.reduceAdd, Nat.reduceLT, Nat.reduceLeDiff, Nat.reducePow, Bool.and_self, Bool.true_and, true_and, and_true, List.length_cons, List.length_nil, Nat.reduceAdd, i_seq, i_rng1, i_rng2, o_expr, o_retn, o_pass, o_retown, o_frz, o_appC, e_neg, e_kon, e_lset, e_chain, e_sumL, sz, w_tup, w_lst, w_str, ex_tup, set_nil, set_cons, ty_str, ty_lst, ty_tup, ty_bool, o_asgTu, Bool.not_true, Bool.not_false, i_own, i_cel, o_rem, if_true, if_false]
        have l2 := some_len (rs := rs.take (j + 1)) (n := d) (Nat.le_trans (by simp [List.length_take]; omega) l) (by omega) (fun r hr' => hr r (List.mem_of_mem_take hr'))
        rw [flat_take ex] at l2 ⊢
        rw [List.length_append] at l2
        exact ⟨by omega, g.trans g2, _, rfl⟩
      · rintro σ h' ⟨g, s2, rfl⟩
        rw [List.take_length]
        simp only [o_cons, o_nil, o_ite, o_asg, o_ret, o_own, o_cel, o_app, o_setC, e_var, e_peek, e_lit, e_bin, e_cmp, e_not, e_and, e_or, e_isk, e_ix, p_no, p_at, e_slice, e_rev, e_tup, e_lst, e_call, e_blt, e_isi, e_sset, e_sumL, e_mth, e_mk, es_cons, es_nil, s_ok, s_bind, s_of, List.map_cons, List.map_nil, List.cons_append, List.nil_append, List.replicate, Nat.reduceSub, List.getElem?_cons_zero, List.getElem?_cons_succ, List.set_cons_zero, List.set_cons_succ, ex_iteo, ex_iteno, ex_some, ex_sl, ex_own, ex_map, ex_bl, ex_int, ex_str, ex_lst, if_tt, if_ff, if_dec, if_not, rd_non, rd_bl, rdd_int, rdd_str, rd_tup, rd_lst, rd_scr, b_add, b_sub, b_mul, b_fdiv, b_mod, b_pow, b_cat, b_catL, b_catT, c_lt, c_gt, c_le, c_ge, c_eq, c_ne, c_eqs, c_nes, c_eqb, c_neb, t_bl, l_str, l_lst, l_tup, l_scr, m_min, m_max, m_tup, m_lst, m_intb, m_inti, i_lst, i_tup, i_str, i_scr, at0, at1, at2, ne_eq, Int.reduceEq, Int.reduceNe, not_false_eq_true, decide_true, decide_false, Int.reduceAbs, Int.reduceLE, Int.reduceLT, Int.reduceToNat, Int.reduceAdd, Nat.reduceLT, Nat.reduceLeDiff, Nat.reducePow, Bool.and_self, Bool.true_and, true_and, and_true, List.length_cons, List.length_nil, Nat.reduceAdd, i_seq, i_rng1, i_rng2, o_expr, o_retn, o_pass, o_retown, o_frz, o_appC, e_neg, e_kon, e_lset, e_chain, e_sumL, sz, w_tup, w_lst, w_str, ex_tup, set_nil, set_cons, ty_str, ty_lst, ty_tup, ty_bool, o_asgTu, Bool.not_true, Bool.not_false, i_own, i_cel, o_rem, if_true, if_false]
        exact q _ _ get_app g.1 (g.trans Gr.app)
omit e in
/-- whether a rule holds -/
def hld (p : Int → Bool) : Nat → D → Int → Bool
  | 0, _, f => p f
  | n + 1, .tup [.str s, .int k, .tup rs], f => if s = tSome then decide (k ≤ (rs.foldl (fun (x : Int × Int) r => (x.1 + (if hld p n r x.2 then 1 else 0), x.2 + (ats n r).length)) (0, f)).1) else p f
  | _ + 1, _, f => p f
omit e in
def cnt (p : Int → Bool) (n : Nat) (rs : List D) (f : Int) : Int × Int := rs.foldl (fun (x : Int × Int) r => (x.1 + (if hld p n r x.2 then 1 else 0), x.2 + (ats n r).length)) (0, f)
omit e in
theorem hld_at {p : Int → Bool} {n : Nat} {d : D} {f : Int} (h : At d) : hld p n d f = p f := by
  cases n with
  | zero => rfl
  | succ n =>
    obtain ⟨⟨s, r, rfl, hs⟩, _⟩ := h
    unfold hld
    split
    · rfl
    · rename_i z
      cases z
      rw [if_neg hs]
    · rfl
omit e in
theorem hld_some {p : Int → Bool} {n : Nat} {k f : Int} {rs : List D} : hld p (n + 1) (.tup [.str tSome, .int k, .tup rs]) f = decide (k ≤ (cnt p n rs f).1) := if_pos rfl
omit e in
theorem cnt_take {p : Int → Bool} {n j : Nat} {rs : List D} {r : D} {f : Int} (ex : rs[j]? = some r) : cnt p n (rs.take (j + 1)) f = ((cnt p n (rs.take j) f).1 + (if hld p n r (cnt p n (rs.take j) f).2 then 1 else 0), (cnt p n (rs.take j) f).2 + (ats n r).length) := by
  unfold cnt
  rw [take_one ex, List.foldl_append]; rfl
omit e in
theorem cnt_two {p : Int → Bool} {n : Nat} {rs : List D} {f : Int} : (cnt p n rs f).2 = f + (rs.flatMap (ats n)).length := by
  have a : ∀ (rs : List D) (x : Int × Int), (rs.foldl (fun (x : Int × Int) r => (x.1 + (if hld p n r x.2 then 1 else 0), x.2 + (ats n r).length)) x).2 = x.2 + (rs.flatMap (ats n)).length := by
    intro rs
    induction rs with
    | nil => intro x; simp
    | cons r rs ih =>
      intro x
      rw [List.foldl_cons, ih, List.flatMap_cons, List.length_append]
      push_cast
      omega
  exact a rs (0, f)
omit e in
theorem in_ints {xs : List D} {f : Int} (h : ∀ x ∈ xs, ∃ i, x = .int i) : cmp .isin (.int f) (.lst xs) = some (xs.any fun z => eqv z (.int f)) := by
  show (if (flat (.int f) && xs.all flat) || (okD (.int f) && okD (.lst xs)) then some (xs.any fun z => eqv z (.int f)) else none) = _
  rw [if_pos]
  rw [Bool.or_eq_true]
  refine .inl ?_
  rw [Bool.and_eq_true]
  refine ⟨rfl, List.all_eq_true.mpr fun x hx => ?_⟩
  obtain ⟨i, rfl⟩ := h x hx
  rfl
omit e in
abbrev pin (xs : List D) (f : Int) : Bool := xs.any fun z => eqv z (.int f)
omit e in
theorem int_if {b : Bool} : (if b = true then (1 : Int) else 0) = if b then 1 else 0 := rfl
theorem holds_sat {xs : List D} (hx : ∀ x ∈ xs, ∃ i, x = .int i) : ∀ (d N : Nat) (r : D) (f : Int) (h : Heap), d + 2 ≤ N → d ≤ 4 → Ru d r → ∀ (P : D → Heap → Prop), (∀ h', Gr h h' → P (.bl (hld (pin xs) d r f)) h') → sat (callN E N 217 [r, .lst xs, .int f] h) P := by
  intro d
  induction d with
  | zero =>
    intro N r f h hN h4 hr P q
    obtain ⟨M, rfl⟩ : ∃ M, N = M + 1 := ⟨N - 1, by omega⟩
    obtain ⟨⟨s, t, rfl, hs⟩, _⟩ := hr
    refine call_sat e.holdsF rfl ?_
    unfold fd_holdsF
    simp only [o_cons, o_nil, o_ite, o_asg, o_ret, o_own, o_cel, o_app, o_setC, e_var, e_peek, e_lit, e_bin, e_cmp, e_not, e_and, e_or, e_isk, e_ix, p_no, p_at, e_slice, e_rev, e_tup, e_lst, e_call, e_blt, e_isi, e_sset, e_sumL, e_mth, e_mk, es_cons, es_nil, s_ok, s_bind, s_of, List.map_cons, List.map_nil, List.cons_append, List.nil_append, List.replicate, Nat.reduceSub, List.getElem?_cons_zero, List.getElem?_cons_succ, List.set_cons_zero, List.set_cons_succ, ex_iteo, ex_iteno, ex_some, ex_sl, ex_own, ex_map, ex_bl, ex_int, ex_str, ex_lst, if_tt, if_ff, if_dec, if_not, rd_non, rd_bl, rdd_int, rdd_str, rd_tup, rd_lst, rd_scr, b_add, b_sub, b_mul, b_fdiv, b_mod, b_pow, b_cat, b_catL, b_catT, c_lt, c_gt, c_le, c_ge, c_eq, c_ne, c_eqs, c_nes, c_eqb, c_neb, t_bl, l_str, l_lst, l_tup, l_scr, m_min, m_max, m_tup, m_lst, m_intb, m_inti, i_lst, i_tup, i_str, i_scr, at0, at1, at2, ne_eq, Int.reduceEq, Int.reduceNe, not_false_eq_true, decide_true, decide_false, Int.reduceAbs, Int.reduceLE, Int.reduceLT, Int.reduceToNat, Int.reduceAdd, Nat.reduceLT, Nat.reduceLeDiff, Nat.reducePow, Bool.and_self, Bool.true_and, true_and, and_true, List.length_cons, List.length_nil, Nat.reduceAdd, i_seq, i_rng1, i_rng2, o_expr, o_retn, o_pass, o_retown, o_frz, o_appC, e_neg, e_kon, e_lset, e_chain, e_sumL, sz, w_tup, w_lst, w_str, ex_tup, set_nil, set_cons, ty_str, ty_lst, ty_tup, ty_bool, o_asgTu, Bool.not_true, Bool.not_false, i_own, i_cel, o_rem, if_true, if_false]
    rw [if_pos hs]
    rw [in_ints hx]
    simp only [o_cons, o_nil, o_ite, o_asg, o_ret, o_own, o_cel, o_app, o_setC, e_var, e_peek, e_lit, e_bin, e_cmp, e_not, e_and, e_or, e_isk, e_ix, p_no, p_at, e_slice, e_rev, e_tup, e_lst, e_call, e_blt, e_isi, e_sset, e_sumL, e_mth, e_mk, es_cons, es_nil, s_ok, s_bind, s_of, List.map_cons, List.map_nil, List.cons_append, List.nil_append, List.replicate, Nat.reduceSub, List.getElem?_cons_zero, List.getElem?_cons_succ, List.set_cons_zero, List.set_cons_succ, ex_iteo, ex_iteno, ex_some, ex_sl, ex_own, ex_map, ex_bl, ex_int, ex_str, ex_lst, if_tt, if_ff, if_dec, if_not, rd_non, rd_bl, rdd_int, rdd_str, rd_tup, rd_lst, rd_scr, b_add, b_sub, b_mul, b_fdiv, b_mod, b_pow, b_cat, b_catL, b_catT, c_lt, c_gt, c_le, c_ge, c_eq, c_ne, c_eqs, c_nes, c_eqb, c_neb, t_bl, l_str, l_lst, l_tup, l_scr, m_min, m_max, m_tup, m_lst, m_intb, m_inti, i_lst, i_tup, i_str, i_scr, at0, at1, at2, ne_eq, Int.reduceEq, Int.reduceNe, not_false_eq_true, decide_true, decide_false, Int.reduceAbs, Int.reduceLE, Int.reduceLT, Int.reduceToNat, Int.reduceAdd, Nat.reduceLT, Nat.reduceLeDiff, Nat.reducePow, Bool.and_self, Bool.true_and, true_and, and_true, List.length_cons, List.length_nil, Nat.reduceAdd, i_seq, i_rng1, i_rng2, o_expr, o_retn, o_pass, o_retown, o_frz, o_appC, e_neg, e_kon, e_lset, e_chain, e_sumL, sz, w_tup, w_lst, w_str, ex_tup, set_nil, set_cons, ty_str, ty_lst, ty_tup, ty_bool, o_asgTu, Bool.not_true, Bool.not_false, i_own, i_cel, o_rem, if_true, if_false]
    exact q h Gr.refl
  | succ d ih =>
    intro N r f h hN h4 hr P q
    obtain ⟨M, rfl⟩ : ∃ M, N = M + 1 := ⟨N - 1, by omega⟩
    refine call_sat e.holdsF rfl ?_
    unfold fd_holdsF
    rcases hr with hr | ⟨k, rs, rfl, l, hr⟩
    · rw [hld_at hr] at q
      obtain ⟨⟨s, t, rfl, hs⟩, _⟩ := hr
      simp only [o_cons, o_nil, o_ite, o_asg, o_ret, o_own, o_cel, o_app, o_setC, e_var, e_peek, e_lit, e_bin, e_cmp, e_not, e_and, e_or, e_isk, e_ix, p_no, p_at, e_slice, e_rev, e_tup, e_lst, e_call, e_blt, e_isi, e_sset, e_sumL, e_mth, e_mk, es_cons, es_nil, s_ok, s_bind, s_of, List.map_cons, List.map_nil, List.cons_append, List.nil_append, List.replicate, Nat.reduceSub, List.getElem?_cons_zero, List.getElem?_cons_succ, List.set_cons_zero, List.set_cons_succ, ex_iteo, ex_iteno, ex_some, ex_sl, ex_own, ex_map, ex_bl, ex_int, ex_str, ex_lst, if_tt, if_ff, if_dec, if_not, rd_non, rd_bl, rdd_int, rdd_str, rd_tup, rd_lst, rd_scr, b_add, b_sub, b_mul, b_fdiv, b_mod, b_pow, b_cat, b_catL, b_catT, c_lt, c_gt, c_le, c_ge, c_eq, c_ne, c_eqs, c_nes, c_eqb, c_neb, t_bl, l_str, l_lst, l_tup, l_scr, m_min, m_max, m_tup, m_lst, m_intb, m_inti, i_lst, i_tup, i_str, i_scr, at0, at1, at2, ne_eq, Int.reduceEq, Int.reduceNe, not_false_eq_true, decide_true, decide_false, Int.reduceAbs, Int.reduceLE, Int.reduceLT, Int.reduceToNat, Int.reduceAdd, Nat.reduceLT, Nat.reduceLeDiff, Nat.reducePow, Bool.and_self, Bool.true_and, true_and, and_true, List.length_cons, List.length_nil, Nat.reduceAdd, i_seq, i_rng1, i_rng2, o_expr, o_retn, o_pass, o_retown, o_frz, o_appC, e_neg, e_kon, e_lset, e_chain, e_sumL, sz, w_tup, w_lst, w_str, ex_tup, set_nil, set_cons, ty_str, ty_lst, ty_tup, ty_bool, o_asgTu, Bool.not_true, Bool.not_false, i_own, i_cel, o_rem, if_true, if_false]
      rw [if_pos hs]
      rw [in_ints hx]
      simp only [o_cons, o_nil, o_ite, o_asg, o_ret, o_own, o_cel, o_app, o_setC, e_var, e_peek, e_lit, e_bin, e_cmp, e_not, e_and, e_or, e_isk, e_ix, p_no, p_at, e_slice, e_rev, e_tup, e_lst, e_call, e_blt, e_isi, e_sset, e_sumL, e_mth, e_mk, es_cons, es_nil, s_ok, s_bind, s_of, List.map_cons, List.map_nil, List.cons_append, List.nil_append, List.replicate, Nat.reduceSub, List.getElem?_cons_zero, List.getElem?_cons_succ, List.set_cons_zero, List.set_cons_succ, ex_iteo, ex_iteno, ex_some, ex_sl, ex_own, ex_map, ex_bl, ex_int, ex_str, ex_lst, if_tt, if_ff, if_dec, if_not, rd_non, rd_bl, rdd_int, rdd_str, rd_tup, rd_lst, rd_scr, b_add, b_sub, b_mul, b_fdiv, b_mod, b_pow, b_cat, b_catL, b_catT, c_lt, c_gt, c_le, c_ge, c_eq, c_ne, c_eqs, c_nes, c_eqb, c_neb, t_bl, l_str, l_lst, l_tup, l_scr, m_min, m_max, m_tup, m_lst, m_intb, m_inti, i_lst, i_tup, i_str, i_scr, at0, at1, at2, ne_eq, Int.reduceEq, Int.reduceNe, not_false_eq_true, decide_true, decide_false, Int.reduceAbs, Int.reduceLE, Int.reduceLT, Int.reduceToNat, Int.reduceAdd, Nat.reduceLT, Nat.reduceLeDiff, Nat.reducePow, Bool.and_self, Bool.true_and, true_and, and_true, List.length_cons, List.length_nil, Nat.reduceAdd, i_seq, i_rng1, i_rng2, o_expr, o_retn, o_pass, o_retown, o_frz, o_appC, e_neg, e_kon, e_lset, e_chain, e_sumL, sz, w_tup, w_lst, w_str, ex_tup, set_nil, set_cons, ty_str, ty_lst, ty_tup, ty_bool, o_asgTu, Bool.not_true, Bool.not_false, i_own, i_cel, o_rem, if_true, if_false]
      exact q h Gr.refl
    · rw [hld_some] at q
      simp only [o_cons, o_nil, o_ite, o_asg, o_ret, o_own, o_cel, o_app, o_setC, e_var, e_peek, e_lit, e_bin, e_cmp, e_not, e_and, e_or, e_isk, e_ix, p_no, p_at, e_slice, e_rev, e_tup, e_lst, e_call, e_blt, e_isi, e_sset, e_sumL, e_mth, e_mk, es_cons, es_nil, s_ok, s_bind, s_of, List.map_cons, List.map_nil, List.cons_append, List.nil_append, List.replicate, Nat.reduceSub, List.getElem?_cons_zero, List.getElem?_cons_succ, List.set_cons_zero, List.set_cons_succ, ex_iteo, ex_iteno, ex_some, ex_sl, ex_own, ex_map, ex_bl, ex_int, ex_str, ex_lst, if_tt, if_ff, if_dec, if_not, rd_non, rd_bl, rdd_int, rdd_str, rd_tup, rd_lst, rd_scr, b_add, b_sub, b_mul, b_fdiv, b_mod, b_pow, b_cat, b_catL, b_catT, c_lt, c_gt, c_le, c_ge, c_eq, c_ne, c_eqs, c_nes, c_eqb, c_neb, t_bl, l_str, l_lst, l_tup, l_scr, m_min, m_max, m_tup, m_lst, m_intb, m_inti, i_lst, i_tup, i_str, i_scr, at0, at1, at2, ne_eq, Int.reduceEq, Int.reduceNe, not_false_eq_true, decide_true, decide_false, Int.reduceAbs, Int.reduceLE, Int.reduceLT, Int.reduceToNat, Int.reduceAdd, Nat.reduceLT, Nat.reduceLeDiff, Nat.reducePow, Bool.and_self, Bool.true_and, true_and, and_true, List.length_cons, List.length_nil, Nat.reduceAdd, i_seq, i_rng1, i_rng2, o_expr, o_retn, o_pass, o_retown, o_frz, o_appC, e_neg, e_kon, e_lset, e_chain, e_sumL, sz, w_tup, w_lst, w_str, ex_tup, set_nil, set_cons, ty_str, ty_lst, ty_tup, ty_bool, o_asgTu, Bool.not_true, Bool.not_false, i_own, i_cel, o_rem, if_true, if_false]
      rw [if_neg (by simp)]
      refine o_for ?_
      simp only [o_cons, o_nil, o_ite, o_asg, o_ret, o_own, o_cel, o_app, o_setC, e_var, e_peek, e_lit, e_bin, e_cmp, e_not, e_and, e_or, e_isk, e_ix, p_no, p_at, e_slice, e_rev, e_tup, e_lst, e_call, e_blt, e_isi, e_sset, e_sumL, e_mth, e_mk, es_cons, es_nil, s_ok, s_bind, s_of, List.map_cons, List.map_nil, List.cons_append, List.nil_append, List.replicate, Nat.reduceSub, List.getElem?_cons_zero, List.getElem?_cons_succ, List.set_cons_zero, List.set_cons_succ, ex_iteo, ex_iteno, ex_some, ex_sl, ex_own, ex_map, ex_bl, ex_int, ex_str, ex_lst, if_tt, if_ff, if_dec, if_not, rd_non, rd_bl, rdd_int, rdd_str, rd_tup, rd_lst, rd_scr, b_add, b_sub, b_mul, b_fdiv, b_mod, b_pow, b_cat, b_catL, b_catT, c_lt, c_gt, c_le, c_ge, c_eq, c_ne, c_eqs, c_nes, c_eqb, c_neb, t_bl, l_str, l_lst, l_tup, l_scr, m_min, m_max, m_tup, m_lst, m_intb, m_inti, i_lst, i_tup, i_str, i_scr, at0, at1, at2, ne_eq, Int.reduceEq, Int.reduceNe, not_false_eq_true, decide_true, decide_false, Int.reduceAbs, Int.reduceLE, Int.reduceLT, Int.reduceToNat, Int.reduceAdd, Nat.reduceLT, Nat.reduceLeDiff, Nat.reducePow, Bool.and_self, Bool.true_and, true_and, and_true, List.length_cons, List.length_nil, Nat.reduceAdd, i_seq, i_rng1, i_rng2, o_expr, o_retn, o_pass, o_retown, o_frz, o_appC, e_neg, e_kon, e_lset, e_chain, e_sumL, sz, w_tup, w_lst, w_str, ex_tup, set_nil, set_cons, ty_str, ty_lst, ty_tup, ty_bool, o_asgTu, Bool.not_true, Bool.not_false, i_own, i_cel, o_rem, if_true, if_false]
      refine ⟨fun j σ h' => Gr h h' ∧ ∃ s4, σ = [.v (.tup [.str tSome, .int k, .tup rs]), .v (.lst xs), .v (.int (cnt (pin xs) d (rs.take j) f).2), .v (.int (cnt (pin xs) d (rs.take j) f).1), s4], ⟨Gr.refl, _, rfl⟩, ?_, ?_⟩
      · rintro j x σ h' ex ⟨g, s4, rfl⟩
        refine ⟨_, rfl, ?_⟩
        simp only [o_cons, o_nil, o_ite, o_asg, o_ret, o_own, o_cel, o_app, o_setC, e_var, e_peek, e_lit, e_bin, e_cmp, e_not, e_and, e_or, e_isk, e_ix, p_no, p_at, e_slice, e_rev, e_tup, e_lst, e_call, e_blt, e_isi, e_sset, e_sumL, e_mth, e_mk, es_cons, es_nil, s_ok, s_bind, s_of, List.map_cons, List.map_nil, List.cons_append, List.nil_append, List.replicate, Nat.reduceSub, List.getElem?_cons_zero, List.getElem?_cons_succ, List.set_cons_zero, List.set_cons_succ, ex_iteo, ex_iteno, ex_some, ex_sl, ex_own, ex_map, ex_bl, ex_int, ex_str, ex_lst, if_tt, if_ff, if_dec, if_not, rd_non, rd_bl, rdd_int, rdd_str, rd_tup, rd_lst, rd_scr, b_add, b_sub, b_mul, b_fdiv, b_mod, b_pow, b_cat, b_catL, b_catT, c_lt, c_gt, c_le, c_ge, c_eq, c_ne, c_eqs, c_nes, c_eqb, c_neb, t_bl, l_str, l_lst, l_tup, l_scr, m_min, m_max, m_tup, m_lst, m_intb, m_inti, i_lst, i_tup, i_str, i_scr, at0, at1, at2, ne_eq, Int.reduceEq, Int.reduceNe, not_false_eq_true, decide_true, decide_false, Int.reduceAbs, Int.reduceLE, Int.reduceLT, Int.reduceToNat, Int.reduceAdd, Nat.reduceLT, Nat.reduceLeDiff, Nat.reducePow, Bool.and_self, Bool.true_and, true_and, and_true, List.length_cons, List.length_nil, Nat.reduceAdd, i_seq, i_rng1, i_rng2, o_expr, o_retn, o_pass, o_retown, o_frz, o_appC, e_neg, e_kon, e_lset, e_chain, e_sumL, sz, w_tup, w_lst, w_str, ex_tup, set_nil, set_cons, ty_str, ty_lst, ty_tup, ty_bool, o_asgTu, Bool.not_true, Bool.not_false, i_own, i_cel, o_rem, if_true, if_false]
        refine ih M x _ h' (by omega) (by omega) (hr x (List.mem_of_getElem? ex)) _ fun h2 g2 => ?_
        simp only [o_cons, o_nil, o_ite, o_asg, o_ret, o_own, o_cel, o_app, o_setC, e_var, e_peek, e_lit, e_bin, e_cmp, e_not, e_and, e_or, e_isk, e_ix, p_no, p_at, e_slice, e_rev, e_tup, e_lst, e_call, e_blt, e_isi, e_sset, e_sumL, e_mth, e_mk, es_cons, es_nil, s_ok, s_bind, s_of, List.map_cons, List.map_nil, List.cons_append, List.nil_append, List.replicate, Nat.reduceSub, List.getElem?_cons_zero, List.getElem?_cons_succ, List.set_cons_zero, List.set_cons_succ, ex_iteo, ex_iteno, ex_some, ex_sl, ex_own, ex_map, ex_bl, ex_int, ex_str, ex_lst, if_tt, if_ff, if_dec, if_not, rd_non, rd_bl, rdd_int, rdd_str, rd_tup, rd_lst, rd_scr, b_add, b_sub, b_mul, b_fdiv, b_mod, b_pow, b_cat, b_catL, b_catT, c_lt, c_gt, c_le, c_ge, c_eq, c_ne, c_eqs, c_nes, c_eqb, c_neb, t_bl, l_str, l_lst, l_tup, l_scr, m_min, m_max, m_tup, m_lst, m_intb, m_inti, i_lst, i_tup, i_str, i_scr, at0, at1, at2, ne_eq, Int.reduceEq, Int.reduceNe, not_false_eq_true, decide_true, decide_false, Int.reduceAbs, Int.reduceLE, Int.reduceLT, Int.reduceToNat, Int.reduceAdd, Nat.reduceLT, Nat.reduceLeDiff, Nat.reducePow, Bool.and_self, Bool.true_and, true_and, and_true, List.length_cons, List.length_nil, Nat.reduceAdd, i_seq, i_rng1, i_rng2, o_expr, o_retn, o_pass, o_retown, o_frz, o_appC, e_neg, e_kon, e_lset, e_chain, e_sumL, sz, w_tup, w_lst, w_str, ex_tup, set_nil, set_cons, ty_str, ty_lst, ty_tup, ty_bool, o_asgTu, Bool.not_true, Bool.not_false, i_own, i_cel, o_rem, if_true, if_false]
        have c1 := cnt_take (p := pin xs) (n := d) (f := f) ex
        cases hb : hld (pin xs) d x (cnt (pin xs) d (rs.take j) f).2 with
        | true =>
          rw [hb] at c1
          simp only [o_cons, o_nil, o_ite, o_asg, o_ret, o_own, o_cel, o_app, o_setC, e_var, e_peek, e_lit, e_bin, e_cmp, e_not, e_and, e_or, e_isk, e_ix, p_no, p_at, e_slice, e_rev, e_tup, e_lst, e_call, e_blt, e_isi, e_sset, e_sumL, e_mth, e_mk, es_cons, es_nil, s_ok, s_bind, s_of, List.map_cons, List.map_nil, List.cons_append, List.nil_append, List.replicate, Nat.reduceSub, List.getElem?_cons_zero, List.getElem?_cons_succ, List.set_cons_zero, List.set_cons_succ, ex_iteo, ex_iteno, ex_some, ex_sl, ex_own, ex_map, ex_bl, ex_int, ex_str, ex_lst, if_tt, if_ff, if_dec, if_not, rd_non, rd_bl, rdd_int, rdd_str, rd_tup, rd_lst, rd_scr, b_add, b_sub, b_mul, b_fdiv, b_mod, b_pow, b_cat, b_catL, b_catT, c_lt, c_gt, c_le, c_ge, c_eq, c_ne, c_eqs, c_nes, c_eqb, c_neb, t_bl, l_str, l_lst, l_tup, l_scr, m_min, m_max, m_tup, m_lst, m_intb, m_inti, i_lst, i_tup, i_str, i_scr, at0, at1, at2, ne_eq, Int.reduceEq, Int.reduceNe, not_false_eq_true, decide_true, decide_false, Int.reduceAbs, Int.reduceLE, Int.reduceLT, Int.reduceToNat, Int.reduceAdd, Nat.reduceLT, Nat.reduceLeDiff, Nat.reducePow, Bool.and_self, Bool.true_and, true_and, and_true, List.length_cons, List.length_nil, Nat.reduceAdd, i_seq, i_rng1, i_rng2, o_expr, o_retn, o_pass, o_retown, o_frz, o_appC, e_neg, e_kon, e_lset, e_chain, e_sumL, sz, w_tup, w_lst, w_str, ex_tup, set_nil, set_cons, ty_str, ty_lst, ty_tup, ty_bool, o_asgTu, Bool.not_true, Bool.not_false, i_own, i_cel, o_rem, if_true, if_false]
          refine atomsP_sat e d M x h2 (by omega) (by omega) (hr x (List.mem_of_getElem? ex)) _ fun b h3 eb lb g3 => ?_
          rw [rd_cell eb]
          simp only [o_cons, o_nil, o_ite, o_asg, o_ret, o_own, o_cel, o_app, o_setC, e_var, e_peek, e_lit, e_bin, e_cmp, e_not, e_and, e_or, e_isk, e_ix, p_no, p_at, e_slice, e_rev, e_tup, e_lst, e_call, e_blt, e_isi, e_sset, e_sumL, e_mth, e_mk, es_cons, es_nil, s_ok, s_bind, s_of, List.map_cons, List.map_nil, List.cons_append, List.nil_append, List.replicate, Nat.reduceSub, List.getElem?_cons_zero, List.getElem?_cons_succ, List.set_cons_zero, List.set_cons_succ, ex_iteo, ex_iteno, ex_some, ex_sl, ex_own, ex_map, ex_bl, ex_int, ex_str, ex_lst, if_tt, if_ff, if_dec, if_not, rd_non, rd_bl, rdd_int, rdd_str, rd_tup, rd_lst, rd_scr, b_add, b_sub, b_mul, b_fdiv, b_mod, b_pow, b_cat, b_catL, b_catT, c_lt, c_gt, c_le, c_ge, c_eq, c_ne, c_eqs, c_nes, c_eqb, c_neb, t_bl, l_str, l_lst, l_tup, l_scr, m_min, m_max, m_tup, m_lst, m_intb, m_inti, i_lst, i_tup, i_str, i_scr, at0, at1, at2, ne_eq, Int.reduceEq, Int.reduceNe, not_false_eq_true, decide_true, decide_false, Int.reduceAbs, Int.reduceLE, Int.reduceLT, Int.reduceToNat, Int.reduceAdd, Nat.reduceLT, Nat.reduceLeDiff, Nat.reducePow, Bool.and_self, Bool.true_and, true_and, and_true, List.length_cons, List.length_nil, Nat.reduceAdd, i_seq, i_rng1, i_rng2, o_expr, o_retn, o_pass, o_retown, o_frz, o_appC, e_neg, e_kon, e_lset, e_chain, e_sumL, sz, w_tup, w_lst, w_str, ex_tup, set_nil, set_cons, ty_str, ty_lst, ty_tup, ty_bool, o_asgTu, Bool.not_true, Bool.not_false, i_own, i_cel, o_rem, if_true, if_false]
          rw [c1]
          exact ⟨g.trans (g2.trans g3), _, rfl⟩
        | false =>
          rw [hb] at c1
          simp only [o_cons, o_nil, o_ite, o_asg, o_ret, o_own, o_cel, o_app, o_setC, e_var, e_peek, e_lit, e_bin, e_cmp, e_not, e_and, e_or, e_isk, e_ix, p_no, p_at, e_slice, e_rev, e_tup, e_lst, e_call, e_blt, e_isi, e_sset, e_sumL, e_mth, e_mk, es_cons, es_nil, s_ok, s_bind, s_of, List.map_cons, List.map_nil, List.cons_append, List.nil_append, List.replicate, Nat.reduceSub, List.getElem?_cons_zero, List.getElem?_cons_succ, List.set_cons_zero, List.set_cons_succ, ex_iteo, ex_iteno, ex_some, ex_sl, ex_own, ex_map, ex_bl, ex_int, ex_str, ex_lst, if_tt, if_ff, if_dec, if_not, rd_non, rd_bl, rdd_int, rdd_str, rd_tup, rd_lst, rd_scr, b_add, b_sub, b_mul, b_fdiv, b_mod, b_pow, b_cat, b_catL, b_catT, c_lt, c_gt, c_le, c_ge, c_eq, c_ne, c_eqs, c_nes, c_eqb, c_neb, t_bl, l_str, l_lst, l_tup, l_scr, m_min, m_max, m_tup, m_lst, m_intb, m_inti, i_lst, i_tup, i_str, i_scr, at0, at1, at2, ne_eq, Int.reduceEq, Int.reduceNe, not_false_eq_true, decide_true, decide_false, Int.reduceAbs, Int.reduceLE, Int.reduceLT, Int.reduceToNat, Int.reduceAdd, Nat.reduceLT, Nat.reduceLeDiff, Nat.reducePow, Bool.and_self, Bool.true_and, true_and, and_true, List.length_cons, List.length_nil, Nat.reduceAdd, i_seq, i_rng1, i_rng2, o_expr, o_retn, o_pass, o_retown, o_frz, o_appC, e_neg, e_kon, e_lset, e_chain, e_sumL, sz, w_tup, w_lst, w_str, ex_tup, set_nil, set_cons, ty_str, ty_lst, ty_tup, ty_bool, o_asgTu, Bool.not_true, Bool.not_false, i_own, i_cel, o_rem, if_true, if_false]
          refine atomsP_sat e d M x h2 (by omega) (by omega) (hr x (List.mem_of_getElem? ex)) _ fun b h3 eb lb g3 => ?_
          rw [rd_cell eb]
          simp only [o_cons, o_nil, o_ite, o_asg, o_ret, o_own, o_cel, o_app, o_setC, e_var, e_peek, e_lit, e_bin, e_cmp, e_not, e_and, e_or, e_isk, e_ix, p_no, p_at, e_slice, e_rev, e_tup, e_lst, e_call, e_blt, e_isi, e_sset, e_sumL, e_mth, e_mk, es_cons, es_nil, s_ok, s_bind, s_of, List.map_cons, List.map_nil, List.cons_append, List.nil_append, List.replicate, Nat.reduceSub, List.getElem?_cons_zero, List.getElem?_cons_succ, List.set_cons_zero, List.set_cons_succ, ex_iteo, ex_iteno, ex_some, ex_sl, ex_own, ex_map, ex_bl, ex_int, ex_str, ex_lst, if_tt, if_ff, if_dec, if_not, rd_non, rd_bl, rdd_int, rdd_str, rd_tup, rd_lst, rd_scr, b_add, b_sub, b_mul, b_fdiv, b_mod, b_pow, b_cat, b_catL, b_catT, c_lt, c_gt, c_le, c_ge, c_eq, c_ne, c_eqs, c_nes, c_eqb, c_neb, t_bl, l_str, l_lst, l_tup, l_scr, m_min, m_max, m_tup, m_lst, m_intb, m_inti, i_lst, i_tup, i_str, i_scr, at0, at1, at2, ne_eq, Int.reduceEq, Int.reduceNe, not_false_eq_true, decide_true, decide_false, Int.reduceAbs, Int.reduceLE, Int.reduceLT, Int.reduceToNat, Int.reduceAdd, Nat.reduceLT, Nat.reduceLeDiff, Nat.reducePow, Bool.and_self, Bool.true_and, true_and, and_true, List.length_cons, List.length_nil, Nat.reduceAdd, i_seq, i_rng1, i_rng2, o_expr, o_retn, o_pass, o_retown, o_frz, o_appC, e_neg, e_kon, e_lset, e_chain, e_sumL, sz, w_tup, w_lst, w_str, ex_tup, set_nil, set_cons, ty_str, ty_lst, ty_tup, ty_bool, o_asgTu, Bool.not_true, Bool.not_false, i_own, i_cel, o_rem, if_true, if_false]
          rw [if_neg (by simp), Int.add_zero] at c1
          rw [c1]
          exact ⟨g.trans (g2.trans g3), _, rfl⟩
      · rintro σ h' ⟨g, s4, rfl⟩
        rw [List.take_length]
        simp only [o_cons, o_nil, o_ite, o_asg, o_ret, o_own, o_cel, o_app, o_setC, e_var, e_peek, e_lit, e_bin, e_cmp, e_not, e_and, e_or, e_isk, e_ix, p_no, p_at, e_slice, e_rev, e_tup, e_lst, e_call, e_blt, e_isi, e_sset, e_sumL, e_mth, e_mk, es_cons, es_nil, s_ok, s_bind, s_of, List.map_cons, List.map_nil, List.cons_append, List.nil_append, List.replicate, Nat.reduceSub, List.getElem?_cons_zero, List.getElem?_cons_succ, List.set_cons_zero, List.set_cons_succ, ex_iteo, ex_iteno, ex_some, ex_sl, ex_own, ex_map, ex_bl, ex_int, ex_str, ex_lst, if_tt, if_ff, if_dec, if_not, rd_non, rd_bl, rdd_int, rdd_str, rd_tup, rd_lst, rd_scr, b_add, b_sub, b_mul, b_fdiv, b_mod, b_pow, b_cat, b_catL, b_catT, c_lt, c_gt, c_le, c_ge, c_eq, c_ne, c_eqs, c_nes, c_eqb, c_neb, t_bl, l_str, l_lst, l_tup, l_scr, m_min, m_max, m_tup, m_lst, m_intb, m_inti, i_lst, i_tup, i_str, i_scr, at0, at1, at2, ne_eq, Int.reduceEq, Int.reduceNe, not_false_eq_true, decide_true, decide_false, Int.reduceAbs, Int.reduceLE, Int.reduceLT, Int.reduceToNat, Int.reduceAdd, Nat.reduceLT, Nat.reduceLeDiff, Nat.reducePow, Bool.and_self, Bool.true_and, true_and, and_true, List.length_cons, List.length_nil, Nat.reduceAdd, i_seq, i_rng1, i_rng2, o_expr, o_retn, o_pass, o_retown, o_frz, o_appC, e_neg, e_kon, e_lset, e_chain, e_sumL, sz, w_tup, w_lst, w_str, ex_tup, set_nil, set_cons, ty_str, ty_lst, ty_tup, ty_bool, o_asgTu, Bool.not_true, Bool.not_false, i_own, i_cel, o_rem, if_true, if_false]
        exact q _ g
end Lb.Rl
end
section
set_option Elab.async false
set_option linter.all false
set_option maxRecDepth 100000
namespace Lb.K14
open Lb
/- law_many: _law_rule_here _law_inner -/
def fd_law_many : Fd := ⟨1, 2, (.cons (.ite (.cmp .ne (.ix (.var 0) (.lit (.int 0))) (.lit (.str [115, 111, 109, 101])))
    (.cons (.ret (.lit (.int 1)))
    .nil)
    .nil)
    (.cons (.ret (.blt .sum (.cons (.comp (.nm 1) (.seq (.ix (.var 0) (.lit (.int 2)))) (.call 94 (.cons (.var 1) .nil))) .nil)))
    .nil))⟩
/- law_barred: _law_rule_here _law_some _law_first _law_bad _law_inner -/
def fd_law_barred : Fd := ⟨3, 5, (.cons (.ite (.cmp .ne (.ix (.var 0) (.lit (.int 0))) (.lit (.str [115, 111, 109, 101])))
    (.cons (.ret (.cmp .isin (.var 2) (.var 1)))
    .nil)
    .nil)
    (.cons (.asg (.nm 3) (.lit (.int 0)))
    (.cons (.for_ (.nm 4) (.seq (.ix (.var 0) (.lit (.int 2))))
    (.cons (.asg (.nm 3) (.bin .add (.var 3) (.blt .int (.cons (.call 95 (.cons (.var 4) (.cons (.var 1) (.cons (.var 2) .nil)))) .nil))))
    (.cons (.asg (.nm 2) (.bin .add (.var 2) (.call 94 (.cons (.var 4) .nil))))
    .nil)))
    (.cons (.ret (.cmp .lt (.bin .sub (.blt .len (.cons (.ix (.var 0) (.lit (.int 2))) .nil)) (.var 3)) (.ix (.var 0) (.lit (.int 1)))))
    .nil))))⟩
/- law_cell: _law_script _law_k _law_number _law_turn -/
def fd_law_cell : Fd := ⟨2, 4, (.cons (.ite (.cmp .lt (.var 1) (.blt .len (.cons (.var 0) .nil)))
    (.cons (.ret (.ix (.var 0) (.var 1)))
    .nil)
    .nil)
    (.cons (.asg (.nm 2) (.bin .add (.bin .mul (.var 1) (.lit (.int 7919))) (.lit (.int 101))))
    (.cons (.ite (.cmp .gt (.blt .len (.cons (.var 0) .nil)) (.lit (.int 0)))
    (.cons (.asg (.nm 3) (.bin .add (.bin .fdiv (.var 1) (.blt .len (.cons (.var 0) .nil))) (.lit (.int 3))))
    (.cons (.asg (.nm 2) (.bin .add (.var 2) (.bin .mul (.bin .mod (.ix (.var 0) (.bin .mod (.var 1) (.blt .len (.cons (.var 0) .nil)))) (.lit (.int 2147483647))) (.var 3))))
    .nil))
    .nil)
    (.cons (.ret (.var 2))
    .nil))))⟩
/- law_take_2: _law_state _law_most _law_digit _law_cell_here _law_number -/
def fd_law_take_2 : Fd := ⟨2, 5, (.cons (.ite (.cmp .eq (.ix (.var 0) (.lit (.int 2))) (.lit (.int 0)))
    (.cons (.asg (.nm 3) (.call 72 (.cons (.ix (.var 0) (.lit (.int 0))) (.cons (.ix (.var 0) (.lit (.int 1))) .nil))))
    (.cons (.setix (.var 0) (.lit (.int 1)) (.bin .add (.ix (.var 0) (.lit (.int 1))) (.lit (.int 1))))
    (.cons (.ite (.cmp .lt (.var 3) (.bin .pow (.lit (.int 10)) (.lit (.int 18))))
    (.cons (.asg (.nm 4) (.bin .mod (.bin .mul (.bin .add (.bin .mod (.var 3) (.lit (.int 2147483629))) (.lit (.int 1))) (.bin .add (.bin .mul (.ix (.var 0) (.lit (.int 1))) (.ix (.var 0) (.lit (.int 1)))) (.lit (.int 48271)))) (.lit (.int 2147483647))))
    (.cons (.ret (.bin .mod (.bin .fdiv (.bin .mod (.bin .mul (.var 4) (.bin .add (.bin .add (.bin .mod (.var 4) (.lit (.int 65519))) (.ix (.var 0) (.lit (.int 1)))) (.lit (.int 2)))) (.lit (.int 2147483587))) (.lit (.int 7))) (.var 1)))
    .nil))
    .nil)
    (.cons (.setix (.var 0) (.lit (.int 2)) (.var 3))
    .nil))))
    .nil)
    (.cons (.asg (.nm 2) (.bin .mod (.ix (.var 0) (.lit (.int 2))) (.var 1)))
    (.cons (.setix (.var 0) (.lit (.int 2)) (.bin .fdiv (.ix (.var 0) (.lit (.int 2))) (.var 1)))
    (.cons (.ret (.var 2))
    .nil))))⟩
/- law_name_2: _law_state _law_letters _law_k -/
def fd_law_name_2 : Fd := ⟨1, 3, (.cons (.asg (.nm 1) (.lit (.str [97, 98, 99, 100, 101, 102, 103, 104, 105, 106, 107, 108, 109, 110, 111, 112, 113, 114, 115, 116, 117, 118, 119, 120, 121, 122])))
    (.cons (.ret (.mth .join (.lit (.str [])) (.cons (.comp (.nm 2) (.rng1 (.bin .add (.lit (.int 1)) (.bin .mod (.call 73 (.cons (.var 0) (.cons (.lit (.int 9)) .nil))) (.lit (.int 6))))) (.ix (.var 1) (.call 73 (.cons (.var 0) (.cons (.lit (.int 26)) .nil))))) .nil)))
    .nil))⟩
/- law_who_3: _law_state _law_parts _law_k -/
def fd_law_who_3 : Fd := ⟨1, 3, (.cons (.own 1 (.lst .nil))
    (.cons (.for_ (.nm 2) (.rng1 (.bin .add (.lit (.int 1)) (.call 73 (.cons (.var 0) (.cons (.ix (.lst (.cons (.lit (.int 3)) (.cons (.lit (.int 3)) (.cons (.lit (.int 6)) .nil)))) (.call 73 (.cons (.var 0) (.cons (.lit (.int 3)) .nil)))) .nil)))))
    (.cons (.app 1 (.tup (.cons (.ix (.lst (.cons (.lit (.str [103, 114, 111, 117, 112])) (.cons (.lit (.str [104, 97, 110, 100])) (.cons (.lit (.str [111, 102, 102, 105, 99, 101])) .nil)))) (.call 73 (.cons (.var 0) (.cons (.lit (.int 3)) .nil)))) (.cons (.call 74 (.cons (.var 0) .nil)) .nil))))
    .nil))
    (.cons (.ret (.blt .tup (.cons (.sset (.peek 1)) .nil)))
    .nil)))⟩
/- law_rule: _law_state _law_room _law_deep _law_way _law_size _law_rules _law_k -/
def fd_law_rule : Fd := ⟨3, 7, (.cons (.asg (.nm 3) (.call 73 (.cons (.var 0) (.cons (.lit (.int 6)) .nil))))
    (.cons (.ite (.and (.cmp .lt (.var 3) (.lit (.int 3))) (.and (.cmp .gt (.var 2) (.lit (.int 1))) (.cmp .gt (.var 1) (.lit (.int 1)))))
    (.cons (.asg (.nm 4) (.bin .add (.lit (.int 1)) (.call 73 (.cons (.var 0) (.cons (.blt .min2 (.cons (.lit (.int 6)) (.cons (.bin .sub (.var 1) (.lit (.int 1))) .nil))) .nil)))))
    (.cons (.asg (.nm 5) (.comp (.nm 6) (.rng1 (.var 4)) (.call 81 (.cons (.var 0) (.cons (.bin .fdiv (.bin .sub (.var 1) (.lit (.int 1))) (.var 4)) (.cons (.bin .sub (.var 2) (.lit (.int 1))) .nil))))))
    (.cons (.ret (.tup (.cons (.lit (.str [115, 111, 109, 101])) (.cons (.bin .add (.lit (.int 1)) (.call 73 (.cons (.var 0) (.cons (.var 4) .nil)))) (.cons (.blt .tup (.cons (.var 5) .nil)) .nil)))))
    .nil)))
    .nil)
    (.cons (.ite (.cmp .eq (.var 3) (.lit (.int 4)))
    (.cons (.ret (.tup (.cons (.lit (.str [111, 102])) (.cons (.call 75 (.cons (.var 0) .nil)) .nil))))
    .nil)
    .nil)
    (.cons (.ite (.cmp .eq (.var 3) (.lit (.int 5)))
    (.cons (.ret (.tup (.cons (.lit (.str [119, 105, 116, 104])) (.cons (.call 74 (.cons (.var 0) .nil)) (.cons (.call 74 (.cons (.var 0) .nil)) .nil)))))
    .nil)
    .nil)
    (.cons (.ret (.tup (.cons (.lit (.str [97, 110, 121])) .nil)))
    .nil)))))⟩
/- law_trimmed: _law_rule_here _law_some _law_found _law_turn _law_spare _law_one _law_other -/
def fd_law_trimmed : Fd := ⟨2, 7, (.cons (.own 2 (.blt .lst (.cons (.var 1) .nil)))
    (.cons (.for_ (.nm 3) (.rng1 (.blt .len (.cons (.var 1) .nil)))
    (.cons (.asg (.nm 4) (.compIf (.nm 5) (.own 2) (.call 95 (.cons (.var 0) (.cons (.compIf (.nm 6) (.own 2) (.cmp .ne (.var 6) (.var 5)) (.var 6)) (.cons (.lit (.int 0)) .nil)))) (.var 5)))
    (.cons (.ite (.cmp .eq (.var 4) (.lst .nil))
    (.cons (.retown 2)
    .nil)
    .nil)
    (.cons (.rem 2 (.ix (.var 4) (.lit (.int 0))))
    .nil))))
    (.cons (.retown 2)
    .nil)))⟩
/- atoms_of_2: rule found inner -/
def fd_atoms_of_2 : Fd := ⟨1, 3, (.cons (.ite (.cmp .ne (.ix (.var 0) (.lit (.int 0))) (.lit (.str [115, 111, 109, 101])))
    (.cons (.ret (.mk (.lst (.cons (.var 0) .nil))))
    .nil)
    .nil)
    (.cons (.own 1 (.lst .nil))
    (.cons (.for_ (.nm 2) (.seq (.ix (.var 0) (.lit (.int 2))))
    (.cons (.own 1 (.bin .add (.peek 1) (.call 216 (.cons (.var 2) .nil))))
    .nil))
    (.cons (.cel 1)
    (.cons (.ret (.var 1))
    .nil)))))⟩
/- holds_from_2: rule filled first good inner -/
def fd_holds_from_2 : Fd := ⟨3, 5, (.cons (.ite (.cmp .ne (.ix (.var 0) (.lit (.int 0))) (.lit (.str [115, 111, 109, 101])))
    (.cons (.ret (.cmp .isin (.var 2) (.var 1)))
    .nil)
    .nil)
    (.cons (.asg (.nm 3) (.lit (.int 0)))
    (.cons (.for_ (.nm 4) (.seq (.ix (.var 0) (.lit (.int 2))))
    (.cons (.ite (.call 217 (.cons (.var 4) (.cons (.var 1) (.cons (.var 2) .nil))))
    (.cons (.asg (.nm 3) (.bin .add (.var 3) (.lit (.int 1))))
    .nil)
    .nil)
    (.cons (.asg (.nm 2) (.bin .add (.var 2) (.blt .len (.cons (.call 216 (.cons (.var 4) .nil)) .nil))))
    .nil)))
    (.cons (.ret (.cmp .ge (.var 3) (.ix (.var 0) (.lit (.int 1)))))
    .nil))))⟩
/- holds_2: rule filled -/
def fd_holds_2 : Fd := ⟨2, 2, (.cons (.ret (.call 217 (.cons (.var 0) (.cons (.var 1) (.cons (.lit (.int 0)) .nil)))))
    .nil)⟩
/- bars_2: rule some k -/
def fd_bars_2 : Fd := ⟨2, 3, (.cons (.ret (.not (.call 218 (.cons (.var 0) (.cons (.compIf (.nm 2) (.rng1 (.blt .len (.cons (.call 216 (.cons (.var 0) .nil)) .nil))) (.cmp .notin (.var 2) (.var 1)) (.var 2)) .nil)))))
    .nil)⟩
/- trimmed_2: rule some found number fewer other -/
def fd_trimmed_2 : Fd := ⟨2, 6, (.cons (.asg (.nm 2) (.mk (.blt .lst (.cons (.var 1) .nil))))
    (.cons (.for_ (.nm 3) (.seq (.var 1))
    (.cons (.asg (.nm 4) (.mk (.compIf (.nm 5) (.cel 2) (.cmp .ne (.var 5) (.var 3)) (.var 5))))
    (.cons (.ite (.call 220 (.cons (.var 0) (.cons (.var 4) .nil)))
    (.cons (.asg (.nm 2) (.var 4))
    .nil)
    .nil)
    .nil)))
    (.cons (.ret (.var 2))
    .nil)))⟩
/- law_15: _law_script _law_state _law_rule_here _law_many_here _law_k _law_share _law_some _law_handed _law_found _law_told _law_number -/
def fd_law_15 : Fd := ⟨1, 11, (.cons (.asg (.nm 1) (.mk (.lst (.cons (.var 0) (.cons (.lit (.int 0)) (.cons (.lit (.int 0)) .nil))))))
    (.cons (.asg (.nm 2) (.call 81 (.cons (.var 1) (.cons (.bin .add (.lit (.int 1)) (.call 73 (.cons (.var 1) (.cons (.lit (.int 24)) .nil)))) (.cons (.bin .add (.lit (.int 1)) (.call 73 (.cons (.var 1) (.cons (.lit (.int 5)) .nil)))) .nil)))))
    (.cons (.asg (.nm 3) (.call 94 (.cons (.var 2) .nil)))
    (.cons (.for_ (.nm 4) (.rng1 (.lit (.int 12)))
    (.cons (.asg (.nm 5) (.ix (.lst (.cons (.lit (.int 2)) (.cons (.lit (.int 4)) (.cons (.lit (.int 3)) (.cons (.lit (.int 1)) .nil))))) (.bin .mod (.var 4) (.lit (.int 4)))))
    (.cons (.asg (.nm 6) (.compIf (.nm 10) (.rng1 (.var 3)) (.cmp .lt (.call 73 (.cons (.var 1) (.cons (.lit (.int 4)) .nil))) (.var 5)) (.var 10)))
    (.cons (.ite (.cmp .eq (.var 4) (.lit (.int 11)))
    (.cons (.asg (.nm 6) (.lst .nil))
    .nil)
    .nil)
    (.cons (.asg (.nm 7) (.blt .lst (.cons (.var 6) .nil)))
    (.cons (.asg (.nm 8) (.call 220 (.cons (.var 2) (.cons (.var 7) .nil))))
    (.cons (.ite (.or (.not (.isi (.var 8) .bool)) (.or (.cmp .ne (.var 8) (.call 95 (.cons (.var 2) (.cons (.var 6) (.cons (.lit (.int 0)) .nil))))) (.cmp .ne (.var 7) (.var 6))))
    (.cons (.ret (.lit (.bl false)))
    .nil)
    .nil)
    (.cons (.ite (.var 8)
    (.cons (.asg (.nm 9) (.call 221 (.cons (.var 2) (.cons (.var 7) .nil))))
    (.cons (.ite (.or (.not (.isi (.var 9) .lst)) (.or (.cmp .ne (.var 9) (.call 96 (.cons (.var 2) (.cons (.var 6) .nil)))) (.cmp .ne (.var 7) (.var 6))))
    (.cons (.ret (.lit (.bl false)))
    .nil)
    .nil)
    (.cons (.appC (.var 9) (.lit (.int 0)))
    (.cons (.ite (.cmp .ne (.call 221 (.cons (.var 2) (.cons (.var 7) .nil))) (.call 96 (.cons (.var 2) (.cons (.var 6) .nil))))
    (.cons (.ret (.lit (.bl false)))
    .nil)
    .nil)
    .nil))))
    .nil)
    .nil))))))))
    (.cons (.ret (.lit (.bl true)))
    .nil)))))⟩
end Lb.K14
end
section
set_option Elab.async false
set_option linter.all false
set_option maxRecDepth 100000
namespace Lb.K14
open PySem PySem.Spec PyProof.Rows L2 Lb
/-- a statement of the program's top -/
def top (i : Nat) : Stmt := PySem.Challenge.pw_leavebook_k14_bars_and_what_is_trimmed.main.body.getD i (.Pass ⟨0, 0, 0, 0⟩)
def ents0 : List Ent := [⟨94, "_law_many", top 13, "_law_many", ["_law_rule_here", "_law_inner"], ["_law_rule_here"], fd_law_many⟩,
  ⟨95, "_law_barred", top 14, "_law_barred", ["_law_rule_here", "_law_some", "_law_first", "_law_bad", "_law_inner"], ["_law_rule_here", "_law_some", "_law_first"], fd_law_barred⟩,
  ⟨72, "_law_cell", top 8, "_law_cell", ["_law_script", "_law_k", "_law_number", "_law_turn"], ["_law_script", "_law_k"], fd_law_cell⟩,
  ⟨73, "_law_take", top 9, "_law_take", ["_law_state", "_law_most", "_law_digit", "_law_cell_here", "_law_number"], ["_law_state", "_law_most"], fd_law_take_2⟩,
  ⟨74, "_law_name", top 10, "_law_name", ["_law_state", "_law_letters", "_law_k"], ["_law_state"], fd_law_name_2⟩,
  ⟨75, "_law_who", top 11, "_law_who", ["_law_state", "_law_parts", "_law_k"], ["_law_state"], fd_law_who_3⟩,
  ⟨81, "_law_rule", top 12, "_law_rule", ["_law_state", "_law_room", "_law_deep", "_law_way", "_law_size", "_law_rules", "_law_k"], ["_law_state", "_law_room", "_law_deep"], fd_law_rule⟩,
  ⟨96, "_law_trimmed", top 15, "_law_trimmed", ["_law_rule_here", "_law_some", "_law_found", "_law_turn", "_law_spare", "_law_one", "_law_other"], ["_law_rule_here", "_law_some"], fd_law_trimmed⟩,
  ⟨216, "atoms_of", top 1, "atoms_of", ["rule", "found", "inner"], ["rule"], fd_atoms_of_2⟩,
  ⟨217, "holds_from", top 2, "holds_from", ["rule", "filled", "first", "good", "inner"], ["rule", "filled", "first"], fd_holds_from_2⟩,
  ⟨218, "holds", top 3, "holds", ["rule", "filled"], ["rule", "filled"], fd_holds_2⟩,
  ⟨220, "bars", top 5, "bars", ["rule", "some", "k"], ["rule", "some"], fd_bars_2⟩]
def ents1 : List Ent := [⟨221, "trimmed", top 6, "trimmed", ["rule", "some", "found", "number", "fewer", "other"], ["rule", "some"], fd_trimmed_2⟩,
  ⟨222, "law", top 16, "law", ["_law_script", "_law_state", "_law_rule_here", "_law_many_here", "_law_k", "_law_share", "_law_some", "_law_handed", "_law_found", "_law_told", "_law_number"], ["_law_script"], fd_law_15⟩]
def the : Lb.Law := ⟨ents0 ++ ents1, []⟩
theorem the_ck : the.ck = true := by decide +kernel
theorem the_b : AllB the.ents := ⟨fun _ _ _ _ _ _ us hl => match us, hl with | [_], _ => rfl,
  fun _ _ _ _ _ _ us hl => match us, hl with | [_, _, _], _ => rfl,
  fun _ _ _ _ _ _ us hl => match us, hl with | [_, _], _ => rfl,
  fun _ _ _ _ _ _ us hl => match us, hl with | [_, _], _ => rfl,
  fun _ _ _ _ _ _ us hl => match us, hl with | [_], _ => rfl,
  fun _ _ _ _ _ _ us hl => match us, hl with | [_], _ => rfl,
  fun _ _ _ _ _ _ us hl => match us, hl with | [_, _, _], _ => rfl,
  fun _ _ _ _ _ _ us hl => match us, hl with | [_, _], _ => rfl,
  fun _ _ _ _ _ _ us hl => match us, hl with | [_], _ => rfl,
  fun _ _ _ _ _ _ us hl => match us, hl with | [_, _, _], _ => rfl,
  fun _ _ _ _ _ _ us hl => match us, hl with | [_, _], _ => rfl,
  fun _ _ _ _ _ _ us hl => match us, hl with | [_, _], _ => rfl,
  fun _ _ _ _ _ _ us hl => match us, hl with | [_, _], _ => rfl,
  fun _ _ _ _ _ _ us hl => match us, hl with | [_], _ => rfl, trivial⟩
end Lb.K14
end
section
set_option Elab.async false
set_option linter.all false
set_option maxRecDepth 100000
namespace Lb.K14
open Lb Lb.Dr Lb.Rl
def cntF (p : Int → Bool) (n : Nat) (rs : List D) (x : Int × Int) : Int × Int := rs.foldl (fun (x : Int × Int) r => (x.1 + (if hld p n r x.2 then 1 else 0), x.2 + (ats n r).length)) x
theorem cntF_cons {p : Int → Bool} {n : Nat} {r : D} {rs : List D} {x : Int × Int} : cntF p n (r :: rs) x = cntF p n rs (x.1 + (if hld p n r x.2 then 1 else 0), x.2 + (ats n r).length) := rfl
theorem hld_congr {p q : Int → Bool} : ∀ {n : Nat} {d : D} {f : Int}, Ru n d → (∀ i, f ≤ i → i < f + (ats n d).length → p i = q i) → hld p n d f = hld q n d f
  | 0, d, f, h, e => e f (Int.le_refl _) (by show f < f + ((1 : Nat) : Int); omega)
  | n + 1, d, f, h, e => by
    rcases h with h | ⟨k, rs, rfl, l, h⟩
    · rw [hld_at h, hld_at h]
      refine e f (Int.le_refl _) ?_
      rw [ats_at h]; show f < f + ((1 : Nat) : Int); omega
    · rw [hld_some, hld_some]
      rw [ats_some] at e
      have key : ∀ (rs : List D) (g f : Int), (∀ r ∈ rs, Ru n r) → (∀ i, f ≤ i → i < f + (rs.flatMap (ats n)).length → p i = q i) → cntF p n rs (g, f) = cntF q n rs (g, f) := by
        intro rs
        induction rs with
        | nil => intro g f _ _; rfl
        | cons r rs ih =>
          intro g f hr e
          rw [List.flatMap_cons, List.length_append] at e
          rw [cntF_cons, cntF_cons]
          have a : hld p n r f = hld q n r f := hld_congr (hr r (by simp)) fun i h1 h2 => e i h1 (by push_cast; omega)
          show cntF p n rs (g + (if hld p n r f = true then 1 else 0), f + (ats n r).length) = cntF q n rs (g + (if hld q n r f = true then 1 else 0), f + (ats n r).length)
          rw [a]
          exact ih _ _ (fun x hx => hr x (by simp [hx])) fun i h1 h2 => e i (by omega) (by push_cast; omega)
      have k1 : cnt p n rs f = cnt q n rs f := key rs 0 f h e
      rw [k1]
theorem hld_mono {p q : Int → Bool} (e : ∀ i, p i = true → q i = true) : ∀ {n : Nat} {d : D} {f : Int}, Ru n d → hld p n d f = true → hld q n d f = true
  | 0, d, f, h, z => e f z
  | n + 1, d, f, h, z => by
    rcases h with h | ⟨k, rs, rfl, l, h⟩
    · rw [hld_at h] at z ⊢
      exact e f z
    · rw [hld_some] at z ⊢
      have key : ∀ (rs : List D) (g g' f : Int), (∀ r ∈ rs, Ru n r) → g ≤ g' → (cntF p n rs (g, f)).1 ≤ (cntF q n rs (g', f)).1 := by
        intro rs
        induction rs with
        | nil => intro g g' f _ l; exact l
        | cons r rs ih =>
          intro g g' f hr l
          rw [cntF_cons, cntF_cons]
          have a : hld p n r f = true → hld q n r f = true := hld_mono e (hr r (by simp))
          refine ih _ _ _ (fun x hx => hr x (by simp [hx])) ?_
          show g + (if hld p n r f = true then 1 else 0) ≤ g' + (if hld q n r f = true then 1 else 0)
          by_cases c : hld p n r f = true
          · rw [if_pos c, if_pos (a c)]; omega
          · rw [if_neg c]; split <;> omega
      have k1 : (cnt p n rs f).1 ≤ (cnt q n rs f).1 := key rs 0 0 f h (Int.le_refl _)
      rw [decide_eq_true_eq] at z ⊢
      omega
def inn (ns : List Int) (f : Int) : Bool := decide (f ∈ ns)
theorem pin_ints (ns : List Int) : pin (ns.map D.int) = inn ns := by
  funext f
  rw [Bool.eq_iff_iff]
  unfold pin inn
  rw [List.any_eq_true, decide_eq_true_eq]
  constructor
  · rintro ⟨x, hx, e⟩
    obtain ⟨k, hk, rfl⟩ := List.mem_map.mp hx
    have e : (k == f) = true := e
    rw [beq_iff_eq] at e
    rw [← e]; exact hk
  · intro h
    refine ⟨.int f, List.mem_map.mpr ⟨f, h, rfl⟩, ?_⟩
    show (f == f) = true
    simp
theorem are_ints (ns : List Int) : ∀ x ∈ ns.map D.int, ∃ i, x = .int i := fun x hx => by
  obtain ⟨k, _, rfl⟩ := List.mem_map.mp hx
  exact ⟨k, rfl⟩
/-- whether these numbers bar the rule -/
def Bn (n : Nat) (r : D) (ns : List Int) : Bool := !(hld (fun f => !(inn ns f)) n r 0)
theorem Bn_mono {n : Nat} {r : D} {ns ms : List Int} (h : Ru n r) (e : ∀ i ∈ ns, i ∈ ms) (b : Bn n r ns = true) : Bn n r ms = true := by
  unfold Bn at *
  rw [Bool.not_eq_true'] at *
  cases c : hld (fun f => !(inn ms f)) n r 0 with
  | false => rfl
  | true =>
    have : hld (fun f => !(inn ns f)) n r 0 = true := hld_mono (fun i hi => by
      rw [Bool.not_eq_true'] at *
      unfold inn at *
      rw [decide_eq_false_iff_not] at *
      exact fun z => hi (e i z)) h c
    rw [this] at b; cases b
def del (F : List Int) (n : Int) : List Int := F.filter (fun k => decide (k ≠ n))
theorem del_mem {F : List Int} {n i : Int} : i ∈ del F n ↔ i ∈ F ∧ i ≠ n := by
  unfold del
  rw [List.mem_filter, decide_eq_true_eq]
section
variable (B : List Int → Bool)
def tr : List Int → List Int → List Int
  | F, [] => F
  | F, n :: r => if B (del F n) = true then tr (del F n) r else tr F r
theorem tr_skip {F : List Int} : ∀ {r1 r2 : List Int}, (∀ n ∈ r1, ¬ B (del F n) = true) → tr B F (r1 ++ r2) = tr B F r2
  | [], r2, _ => rfl
  | n :: r1, r2, h => by
    show (if B (del F n) = true then _ else tr B F (r1 ++ r2)) = _
    rw [if_neg (h n (by simp))]
    exact tr_skip fun k hk => h k (by simp [hk])
theorem first_of {p : Int → Bool} : ∀ {r : List Int} {n : Int} {s : List Int}, r.filter p = n :: s → ∃ r1 r2, r = r1 ++ n :: r2 ∧ (∀ k ∈ r1, ¬ p k = true) ∧ p n = true
  | [], n, s, h => by cases h
  | k :: r, n, s, h => by
    by_cases c : p k = true
    · rw [List.filter_cons_of_pos c] at h
      cases h
      exact ⟨[], r, rfl, by simp, c⟩
    · rw [List.filter_cons_of_neg c] at h
      obtain ⟨r1, r2, e1, e2, e3⟩ := first_of h
      exact ⟨k :: r1, r2, by rw [e1]; rfl, fun j hj => by
        rcases List.mem_cons.mp hj with z | z
        · rw [z]; exact c
        · exact e2 j z, e3⟩
/-- behind some turns: what is kept for good, then what is left to look at -/
def Inv (ns : List Int) (t : Nat) (F : List Int) : Prop := F.length + t = ns.length ∧ F.Nodup ∧ ∃ K r, F = K ++ r ∧ (∀ n ∈ K, ¬ B (del F n) = true) ∧ tr B F r = tr B ns ns
theorem inv_start {ns : List Int} (h : ns.Nodup) : Inv B ns 0 ns := ⟨rfl, h, [], ns, rfl, by simp, rfl⟩
theorem inv_end {ns F : List Int} {t : Nat} (i : Inv B ns t F) (h : F.filter (fun n => B (del F n)) = []) : F = tr B ns ns := by
  obtain ⟨_, _, K, r, e, hK, ht⟩ := i
  rw [← ht]
  have a : ∀ n ∈ r, ¬ B (del F n) = true := fun n hn => by
    have := List.filter_eq_nil_iff.mp h n (by rw [e]; simp [hn])
    exact this
  have b := tr_skip B (F := F) (r1 := r) (r2 := []) a
  rw [List.append_nil] at b
  rw [b]; rfl
theorem inv_full {ns F : List Int} (i : Inv B ns ns.length F) : F = tr B ns ns := by
  refine inv_end B i ?_
  have : F.length = 0 := by have := i.1; omega
  rw [List.length_eq_zero_iff] at this
  rw [this]; rfl
theorem del_erase {F : List Int} (h : F.Nodup) (n : Int) : F.erase n = del F n := by
  rw [h.erase_eq_filter]
  unfold del
  congr 1
  funext k
  rw [Bool.eq_iff_iff]
  simp
theorem inv_step (mono : ∀ {ns ms : List Int}, (∀ i ∈ ns, i ∈ ms) → B ns = true → B ms = true) {ns F : List Int} {t : Nat} (i : Inv B ns t F) {n : Int} {s : List Int} (h : F.filter (fun n => B (del F n)) = n :: s) : n ∈ F ∧ Inv B ns (t + 1) (F.erase n) := by
  obtain ⟨hl, nd, K, r, e, hK, ht⟩ := i
  have hr : r.filter (fun n => B (del F n)) = n :: s := by
    rw [e, List.filter_append] at h
    have z : K.filter (fun n => B (del (K ++ r) n)) = [] := List.filter_eq_nil_iff.mpr fun k hk => by rw [← e]; exact hK k hk
    rw [z, List.nil_append] at h
    rw [e]; exact h
  obtain ⟨r1, r2, e1, e2, e3⟩ := first_of hr
  have mF : n ∈ F := by rw [e, e1]; simp
  refine ⟨mF, ?_, nd.erase n, K ++ r1, r2, ?_, ?_, ?_⟩
  · have := List.length_erase_of_mem mF
    have := List.length_pos_of_mem mF
    omega
  · rw [e, e1, ← List.append_assoc]
    have nm : n ∉ K ++ r1 := by
      rw [e, e1, ← List.append_assoc, List.nodup_append] at nd
      intro z
      exact nd.2.2 n z n (by simp) rfl
    rw [List.erase_append_right _ nm, List.erase_cons_head]
  · intro k hk z
    have : B (del F k) = true := mono (fun j hj => by
      rw [del_mem] at hj ⊢
      exact ⟨List.mem_of_mem_erase hj.1, hj.2⟩) z
    rcases List.mem_append.mp hk with y | y
    · exact hK k y this
    · exact e2 k y this
  · rw [del_erase nd, ← ht, e1, tr_skip B e2]
    show _ = if B (del F n) = true then tr B (del F n) r2 else tr B F r2
    rw [if_pos e3]
end
structure En (E : Env) : Prop extends Rl.En E where
  many : E 94 = some fd_law_many
  barred : E 95 = some fd_law_barred
  ltrim : E 96 = some fd_law_trimmed
  bars : E 220 = some fd_bars_2
  trim : E 221 = some fd_trimmed_2
  law : E 222 = some fd_law_15
variable {E : Env} (e : En E)
omit e in
theorem ints_map : ∀ (ns : List Int), intsD (ns.map D.int) = some ns
  | [] => rfl
  | n :: r => by
    show (intsD (r.map D.int)).map _ = _
    rw [ints_map r]; rfl
omit e in
/-- a comprehension that leaves numbers out -/
theorem filt {c : Cl} {σ : Fr} {h : Heap} {i : Nat} {it : It} {cn : Ex} {ns : List Int} (p : Int → Bool) {P : D → Heap → Prop} {h1 : Heap} (hi : i < σ.length) (hl : ns.length ≤ sz) (hit : sat (evI c σ it h) fun xs h2 => xs = ns.map D.int ∧ h2 = h1) (lv : live σ h1 (ns.map D.int) it)
    (hc : ∀ k ∈ ns, sat (evE c ((wipe σ [i]).set i (.v (.int k))) cn h1) fun b h2 => b = .bl (p k) ∧ h2 = h1) (q : P (.lst ((ns.filter p).map D.int)) h1) : sat (evE c σ (.compIf (.nm i) it cn (.var i)) h) P := by
  refine e_compIfG (hit.mono fun xs h2 ⟨ex, eh⟩ => ?_)
  subst ex eh
  refine ⟨fun j acc h' => h' = h2 ∧ acc = ((ns.take j).filter p).map D.int, ⟨rfl, rfl⟩, ?_, ?_⟩
  · rintro j x acc h' ex _ ⟨rfl, rfl⟩
    rw [List.getElem?_map] at ex
    obtain ⟨k, hk, rfl⟩ := Option.map_eq_some_iff.mp ex
    refine ⟨lv, _, rfl, ?_⟩
    refine (hc k (List.mem_of_getElem? hk)).mono fun b h3 ⟨eb, e3⟩ => ?_
    subst eb e3
    refine ⟨p k, rfl, ?_⟩
    have tk : ns.take (j + 1) = ns.take j ++ [k] := take_one hk
    have el : (wipe σ [i]).length = σ.length := by show ((σ : Fr).set i .no).length = _; rw [List.length_set]
    by_cases z : p k = true
    · rw [if_pos z, e_var]
      refine ⟨.int k, ?_, rfl, ?_⟩
      · show ((wipe σ [i]).set i (.v (.int k)))[i]? = _
        rw [List.getElem?_set_self (by rw [el]; exact hi)]
      · rw [tk, List.filter_append, List.map_append, List.filter_cons_of_pos z]; rfl
    · rw [if_neg z]
      refine ⟨rfl, ?_⟩
      rw [tk, List.filter_append, List.filter_cons_of_neg z, List.filter_nil, List.append_nil]
  · rintro acc h' _ ⟨rfl, rfl⟩
    simp only [List.length_map, List.take_length]
    refine ⟨lv, ?_, q⟩
    exact Nat.le_trans (List.length_filter_le _ _) hl
omit e in
theorem rng_ints : ∀ (lo : Int) (n : Nat), rngL lo n = ((List.range n).map (fun (k : Nat) => lo + (k : Int))).map D.int
  | lo, 0 => rfl
  | lo, n + 1 => by
    show D.int lo :: rngL (lo + 1) n = _
    rw [rng_ints (lo + 1) n, List.range_succ_eq_map]
    simp [Function.comp_def, Int.add_assoc, Int.add_comm 1]
omit e in
theorem same_nil (ns : List Int) : cmp .eq (.lst (ns.map D.int)) (.lst []) = some (decide (ns = [])) := by
  have ok : okD (.lst (ns.map D.int)) = true := (Pd.lst (n := 0) fun x hx => by
    obtain ⟨i, rfl⟩ := are_ints ns x hx
    exact Pd.int).ok (by omega)
  show same (.lst (ns.map D.int)) (.lst []) = _
  unfold same
  rw [if_pos (by rw [ok]; rfl)]
  cases ns with
  | nil => rfl
  | cons n r => rfl
omit e in
theorem ok_ints (ns : List Int) : okD (.lst (ns.map D.int)) = true := (Pd.lst (n := 0) fun x hx => by
  obtain ⟨i, rfl⟩ := are_ints ns x hx
  exact Pd.int).ok (by omega)
include e
theorem many_sat : ∀ (d N : Nat) (r : D) (h : Heap), d + 1 ≤ N → Ru d r → ∀ (P : D → Heap → Prop), P (.int (ats d r).length) h → sat (callN E N 94 [r] h) P := by
  intro d
  induction d with
  | zero =>
    intro N r h hN hr P q
    obtain ⟨M, rfl⟩ : ∃ M, N = M + 1 := ⟨N - 1, by omega⟩
    obtain ⟨⟨s, t, rfl, hs⟩, _⟩ := hr
    refine call_sat e.many rfl ?_
    unfold fd_law_many
    simp only [o_cons, o_nil, o_ite, o_asg, o_ret, o_own, o_cel, o_app, o_setC, e_var, e_peek, e_lit, e_bin, e_cmp, e_not, e_and, e_or, e_isk, e_ix, p_no, p_at, e_slice, e_rev, e_tup, e_lst, e_call, e_blt, e_isi, e_sset, e_sumL, e_mth, e_mk, es_cons, es_nil, s_ok, s_bind, s_of, List.map_cons, List.map_nil, List.cons_append, List.nil_append, List.replicate, Nat.reduceSub, List.getElem?_cons_zero, List.getElem?_cons_succ, List.set_cons_zero, List.set_cons_succ, ex_iteo, ex_iteno, ex_some, ex_sl, ex_own, ex_map, ex_bl, ex_int, ex_str, ex_lst, if_tt, if_ff, if_dec, if_not, rd_non, rd_bl, rdd_int, rdd_str, rd_tup, rd_lst, rd_scr, b_add, b_sub, b_mul, b_fdiv, b_mod, b_pow, b_cat, b_catL, b_catT, c_lt, c_gt, c_le, c_ge, c_eq, c_ne, c_eqs, c_nes, c_eqb, c_neb, t_bl, l_str, l_lst, l_tup, l_scr, m_min, m_max, m_tup, m_lst, m_intb, m_inti, i_lst, i_tup, i_str, i_scr, at0, at1, at2, ne_eq, Int.reduceEq, Int.reduceNe, not_false_eq_true, decide_true, decide_false, Int.reduceAbs, Int.reduceLE, Int.reduceLT, Int.reduceToNat, Int.reduceAdd, Nat.reduceLT, Nat.reduceLeDiff, Nat.reducePow, Bool.and_self, Bool.true_and, true_and, and_true, List.length_cons, List.length_nil, Nat.reduceAdd, i_seq, i_rng1, i_rng2, o_expr, o_retn, o_pass, o_retown, o_frz, o_appC, e_neg, e_kon, e_lset, e_chain, e_sumL, sz, w_tup, w_lst, w_str, ex_tup, set_nil, set_cons, ty_str, ty_lst, ty_tup, ty_bool, o_asgTu, Bool.not_true, Bool.not_false, i_own, i_cel, o_rem, if_true, if_false]
    rw [if_pos hs]
    exact q
  | succ d ih =>
    intro N r h hN hr P q
    obtain ⟨M, rfl⟩ : ∃ M, N = M + 1 := ⟨N - 1, by omega⟩
    refine call_sat e.many rfl ?_
    unfold fd_law_many
    rcases hr with hr | ⟨k, rs, rfl, l, hr⟩
    · rw [ats_at hr] at q
      obtain ⟨⟨s, t, rfl, hs⟩, _⟩ := hr
      simp only [o_cons, o_nil, o_ite, o_asg, o_ret, o_own, o_cel, o_app, o_setC, e_var, e_peek, e_lit, e_bin, e_cmp, e_not, e_and, e_or, e_isk, e_ix, p_no, p_at, e_slice, e_rev, e_tup, e_lst, e_call, e_blt, e_isi, e_sset, e_sumL, e_mth, e_mk, es_cons, es_nil, s_ok, s_bind, s_of, List.map_cons, List.map_nil, List.cons_append, List.nil_append, List.replicate, Nat.reduceSub, List.getElem?_cons_zero, List.getElem?_cons_succ, List.set_cons_zero, List.set_cons_succ, ex_iteo, ex_iteno, ex_some, ex_sl, ex_own, ex_map, ex_bl, ex_int, ex_str, ex_lst, if_tt, if_ff, if_dec, if_not, rd_non, rd_bl, rdd_int, rdd_str, rd_tup, rd_lst, rd_scr, b_add, b_sub, b_mul, b_fdiv, b_mod, b_pow, b_cat, b_catL, b_catT, c_lt, c_gt, c_le, c_ge, c_eq, c_ne, c_eqs, c_nes, c_eqb, c_neb, t_bl, l_str, l_lst, l_tup, l_scr, m_min, m_max, m_tup, m_lst, m_intb, m_inti, i_lst, i_tup, i_str, i_scr, at0, at1, at2, ne_eq, Int.reduceEq, Int.reduceNe, not_false_eq_true, decide_true, decide_false, Int.reduceAbs, Int.reduceLE, Int.reduceLT, Int.reduceToNat, Int.reduceAdd, Nat.reduceLT, Nat.reduceLeDiff, Nat.reducePow, Bool.and_self, Bool.true_and, true_and, and_true, List.length_cons, List.length_nil, Nat.reduceAdd, i_seq, i_rng1, i_rng2, o_expr, o_retn, o_pass, o_retown, o_frz, o_appC, e_neg, e_kon, e_lset, e_chain, e_sumL, sz, w_tup, w_lst, w_str, ex_tup, set_nil, set_cons, ty_str, ty_lst, ty_tup, ty_bool, o_asgTu, Bool.not_true, Bool.not_false, i_own, i_cel, o_rem, if_true, if_false]
      rw [if_pos hs]
      exact q
    · rw [ats_some] at q
      simp only [o_cons, o_nil, o_ite, o_asg, o_ret, o_own, o_cel, o_app, o_setC, e_var, e_peek, e_lit, e_bin, e_cmp, e_not, e_and, e_or, e_isk, e_ix, p_no, p_at, e_slice, e_rev, e_tup, e_lst, e_call, e_blt, e_isi, e_sset, e_sumL, e_mth, e_mk, es_cons, es_nil, s_ok, s_bind, s_of, List.map_cons, List.map_nil, List.cons_append, List.nil_append, List.replicate, Nat.reduceSub, List.getElem?_cons_zero, List.getElem?_cons_succ, List.set_cons_zero, List.set_cons_succ, ex_iteo, ex_iteno, ex_some, ex_sl, ex_own, ex_map, ex_bl, ex_int, ex_str, ex_lst, if_tt, if_ff, if_dec, if_not, rd_non, rd_bl, rdd_int, rdd_str, rd_tup, rd_lst, rd_scr, b_add, b_sub, b_mul, b_fdiv, b_mod, b_pow, b_cat, b_catL, b_catT, c_lt, c_gt, c_le, c_ge, c_eq, c_ne, c_eqs, c_nes, c_eqb, c_neb, t_bl, l_str, l_lst, l_tup, l_scr, m_min, m_max, m_tup, m_lst, m_intb, m_inti, i_lst, i_tup, i_str, i_scr, at0, at1, at2, ne_eq, Int.reduceEq, Int.reduceNe, not_false_eq_true, decide_true, decide_false, Int.reduceAbs, Int.reduceLE, Int.reduceLT, Int.reduceToNat, Int.reduceAdd, Nat.reduceLT, Nat.reduceLeDiff, Nat.reducePow, Bool.and_self, Bool.true_and, true_and, and_true, List.length_cons, List.length_nil, Nat.reduceAdd, i_seq, i_rng1, i_rng2, o_expr, o_retn, o_pass, o_retown, o_frz, o_appC, e_neg, e_kon, e_lset, e_chain, e_sumL, sz, w_tup, w_lst, w_str, ex_tup, set_nil, set_cons, ty_str, ty_lst, ty_tup, ty_bool, o_asgTu, Bool.not_true, Bool.not_false, i_own, i_cel, o_rem, if_true, if_false]
      rw [if_neg (by simp)]
      refine e_comp ?_
      simp only [o_cons, o_nil, o_ite, o_asg, o_ret, o_own, o_cel, o_app, o_setC, e_var, e_peek, e_lit, e_bin, e_cmp, e_not, e_and, e_or, e_isk, e_ix, p_no, p_at, e_slice, e_rev, e_tup, e_lst, e_call, e_blt, e_isi, e_sset, e_sumL, e_mth, e_mk, es_cons, es_nil, s_ok, s_bind, s_of, List.map_cons, List.map_nil, List.cons_append, List.nil_append, List.replicate, Nat.reduceSub, List.getElem?_cons_zero, List.getElem?_cons_succ, List.set_cons_zero, List.set_cons_succ, ex_iteo, ex_iteno, ex_some, ex_sl, ex_own, ex_map, ex_bl, ex_int, ex_str, ex_lst, if_tt, if_ff, if_dec, if_not, rd_non, rd_bl, rdd_int, rdd_str, rd_tup, rd_lst, rd_scr, b_add, b_sub, b_mul, b_fdiv, b_mod, b_pow, b_cat, b_catL, b_catT, c_lt, c_gt, c_le, c_ge, c_eq, c_ne, c_eqs, c_nes, c_eqb, c_neb, t_bl, l_str, l_lst, l_tup, l_scr, m_min, m_max, m_tup, m_lst, m_intb, m_inti, i_lst, i_tup, i_str, i_scr, at0, at1, at2, ne_eq, Int.reduceEq, Int.reduceNe, not_false_eq_true, decide_true, decide_false, Int.reduceAbs, Int.reduceLE, Int.reduceLT, Int.reduceToNat, Int.reduceAdd, Nat.reduceLT, Nat.reduceLeDiff, Nat.reducePow, Bool.and_self, Bool.true_and, true_and, and_true, List.length_cons, List.length_nil, Nat.reduceAdd, i_seq, i_rng1, i_rng2, o_expr, o_retn, o_pass, o_retown, o_frz, o_appC, e_neg, e_kon, e_lset, e_chain, e_sumL, sz, w_tup, w_lst, w_str, ex_tup, set_nil, set_cons, ty_str, ty_lst, ty_tup, ty_bool, o_asgTu, Bool.not_true, Bool.not_false, i_own, i_cel, o_rem, if_true, if_false]
      refine ⟨fun j acc h' => h' = h ∧ acc = (rs.take j).map fun r => .int (ats d r).length, ⟨rfl, rfl⟩, ?_, ?_⟩
      · rintro j x acc h' ex el ⟨rfl, rfl⟩
        refine ⟨_, rfl, ?_⟩
        simp only [o_cons, o_nil, o_ite, o_asg, o_ret, o_own, o_cel, o_app, o_setC, e_var, e_peek, e_lit, e_bin, e_cmp, e_not, e_and, e_or, e_isk, e_ix, p_no, p_at, e_slice, e_rev, e_tup, e_lst, e_call, e_blt, e_isi, e_sset, e_sumL, e_mth, e_mk, es_cons, es_nil, s_ok, s_bind, s_of, List.map_cons, List.map_nil, List.cons_append, List.nil_append, List.replicate, Nat.reduceSub, List.getElem?_cons_zero, List.getElem?_cons_succ, List.set_cons_zero, List.set_cons_succ, ex_iteo, ex_iteno, ex_some, ex_sl, ex_own, ex_map, ex_bl, ex_int, ex_str, ex_lst, if_tt, if_ff, if_dec, if_not, rd_non, rd_bl, rdd_int, rdd_str, rd_tup, rd_lst, rd_scr, b_add, b_sub, b_mul, b_fdiv, b_mod, b_pow, b_cat, b_catL, b_catT, c_lt, c_gt, c_le, c_ge, c_eq, c_ne, c_eqs, c_nes, c_eqb, c_neb, t_bl, l_str, l_lst, l_tup, l_scr, m_min, m_max, m_tup, m_lst, m_intb, m_inti, i_lst, i_tup, i_str, i_scr, at0, at1, at2, ne_eq, Int.reduceEq, Int.reduceNe, not_false_eq_true, decide_true, decide_false, Int.reduceAbs, Int.reduceLE, Int.reduceLT, Int.reduceToNat, Int.reduceAdd, Nat.reduceLT, Nat.reduceLeDiff, Nat.reducePow, Bool.and_self, Bool.true_and, true_and, and_true, List.length_cons, List.length_nil, Nat.reduceAdd, i_seq, i_rng1, i_rng2, o_expr, o_retn, o_pass, o_retown, o_frz, o_appC, e_neg, e_kon, e_lset, e_chain, e_sumL, sz, w_tup, w_lst, w_str, ex_tup, set_nil, set_cons, ty_str, ty_lst, ty_tup, ty_bool, o_asgTu, Bool.not_true, Bool.not_false, i_own, i_cel, o_rem, if_true, if_false, Tg.slots, wipe]
        refine ih M x h' (by omega) (hr x (List.mem_of_getElem? ex)) _ ⟨rfl, ?_⟩
        rw [take_one ex, List.map_append]; rfl
      · rintro acc h' el ⟨rfl, rfl⟩
        refine ⟨by omega, ?_⟩
        rw [List.take_length]
        refine ⟨_, ?_, q⟩
        have a : ∀ rs : List D, intsD (rs.map fun r => .int (ats d r).length) = some (rs.map fun r => ((ats d r).length : Int)) := by
          intro rs
          induction rs with
          | nil => rfl
          | cons x rs ih2 =>
            show (intsD (rs.map fun r => .int (ats d r).length)).map _ = _
            rw [ih2]; rfl
        have b : ∀ rs : List D, (rs.map fun r => ((ats d r).length : Int)).sum = (rs.flatMap (ats d)).length := by
          intro rs
          induction rs with
          | nil => rfl
          | cons x rs ih2 =>
            rw [List.map_cons, List.sum_cons, ih2, List.flatMap_cons, List.length_append]
            push_cast; rfl
        show (intsD (rs.map fun r => .int (ats d r).length)).map (fun ns => D.int ns.sum) = _
        rw [a]
        show some (D.int (rs.map fun r => ((ats d r).length : Int)).sum) = _
        rw [b]
theorem barred_sat (ns : List Int) : ∀ (d N : Nat) (r : D) (f : Int) (h : Heap), d + 2 ≤ N → Ru d r → ∀ (P : D → Heap → Prop), P (.bl (!(hld (fun f => !(inn ns f)) d r f))) h → sat (callN E N 95 [r, .lst (ns.map D.int), .int f] h) P := by
  intro d
  induction d with
  | zero =>
    intro N r f h hN hr P q
    obtain ⟨M, rfl⟩ : ∃ M, N = M + 1 := ⟨N - 1, by omega⟩
    rw [hld_at (show At r from hr), Bool.not_not] at q
    obtain ⟨⟨s, t, rfl, hs⟩, _⟩ := hr
    refine call_sat e.barred rfl ?_
    unfold fd_law_barred
    simp only [o_cons, o_nil, o_ite, o_asg, o_ret, o_own, o_cel, o_app, o_setC, e_var, e_peek, e_lit, e_bin, e_cmp, e_not, e_and, e_or, e_isk, e_ix, p_no, p_at, e_slice, e_rev, e_tup, e_lst, e_call, e_blt, e_isi, e_sset, e_sumL, e_mth, e_mk, es_cons, es_nil, s_ok, s_bind, s_of, List.map_cons, List.map_nil, List.cons_append, List.nil_append, List.replicate, Nat.reduceSub, List.getElem?_cons_zero, List.getElem?_cons_succ, List.set_cons_zero, List.set_cons_succ, ex_iteo, ex_iteno, ex_some, ex_sl, ex_own, ex_map, ex_bl, ex_int, ex_str, ex_lst, if_tt, if_ff, if_dec, if_not, rd_non, rd_bl, rdd_int, rdd_str, rd_tup, rd_lst, rd_scr, b_add, b_sub, b_mul, b_fdiv, b_mod, b_pow, b_cat, b_catL, b_catT, c_lt, c_gt, c_le, c_ge, c_eq, c_ne, c_eqs, c_nes, c_eqb, c_neb, t_bl, l_str, l_lst, l_tup, l_scr, m_min, m_max, m_tup, m_lst, m_intb, m_inti, i_lst, i_tup, i_str, i_scr, at0, at1, at2, ne_eq, Int.reduceEq, Int.reduceNe, not_false_eq_true, decide_true, decide_false, Int.reduceAbs, Int.reduceLE, Int.reduceLT, Int.reduceToNat, Int.reduceAdd, Nat.reduceLT, Nat.reduceLeDiff, Nat.reducePow, Bool.and_self, Bool.true_and, true_and, and_true, List.length_cons, List.length_nil, Nat.reduceAdd, i_seq, i_rng1, i_rng2, o_expr, o_retn, o_pass, o_retown, o_frz, o_appC, e_neg, e_kon, e_lset, e_chain, e_sumL, sz, w_tup, w_lst, w_str, ex_tup, set_nil, set_cons, ty_str, ty_lst, ty_tup, ty_bool, o_asgTu, Bool.not_true, Bool.not_false, i_own, i_cel, o_rem, if_true, if_false]
    rw [if_pos hs, in_ints (are_ints ns)]
    simp only [o_cons, o_nil, o_ite, o_asg, o_ret, o_own, o_cel, o_app, o_setC, e_var, e_peek, e_lit, e_bin, e_cmp, e_not, e_and, e_or, e_isk, e_ix, p_no, p_at, e_slice, e_rev, e_tup, e_lst, e_call, e_blt, e_isi, e_sset, e_sumL, e_mth, e_mk, es_cons, es_nil, s_ok, s_bind, s_of, List.map_cons, List.map_nil, List.cons_append, List.nil_append, List.replicate, Nat.reduceSub, List.getElem?_cons_zero, List.getElem?_cons_succ, List.set_cons_zero, List.set_cons_succ, ex_iteo, ex_iteno, ex_some, ex_sl, ex_own, ex_map, ex_bl, ex_int, ex_str, ex_lst, if_tt, if_ff, if_dec, if_not, rd_non, rd_bl, rdd_int, rdd_str, rd_tup, rd_lst, rd_scr, b_add, b_sub, b_mul, b_fdiv, b_mod, b_pow, b_cat, b_catL, b_catT, c_lt, c_gt, c_le, c_ge, c_eq, c_ne, c_eqs, c_nes, c_eqb, c_neb, t_bl, l_str, l_lst, l_tup, l_scr, m_min, m_max, m_tup, m_lst, m_intb, m_inti, i_lst, i_tup, i_str, i_scr, at0, at1, at2, ne_eq, Int.reduceEq, Int.reduceNe, not_false_eq_true, decide_true, decide_false, Int.reduceAbs, Int.reduceLE, Int.reduceLT, Int.reduceToNat, Int.reduceAdd, Nat.reduceLT, Nat.reduceLeDiff, Nat.reducePow, Bool.and_self, Bool.true_and, true_and, and_true, List.length_cons, List.length_nil, Nat.reduceAdd, i_seq, i_rng1, i_rng2, o_expr, o_retn, o_pass, o_retown, o_frz, o_appC, e_neg, e_kon, e_lset, e_chain, e_sumL, sz, w_tup, w_lst, w_str, ex_tup, set_nil, set_cons, ty_str, ty_lst, ty_tup, ty_bool, o_asgTu, Bool.not_true, Bool.not_false, i_own, i_cel, o_rem, if_true, if_false]
    rw [show ((ns.map D.int).any fun z => eqv z (.int f)) = inn ns f from congrFun (pin_ints ns) f]
    exact q
  | succ d ih =>
    intro N r f h hN hr P q
    obtain ⟨M, rfl⟩ : ∃ M, N = M + 1 := ⟨N - 1, by omega⟩
    refine call_sat e.barred rfl ?_
    unfold fd_law_barred
    rcases hr with hr | ⟨k, rs, rfl, l, hr⟩
    · rw [hld_at hr, Bool.not_not] at q
      obtain ⟨⟨s, t, rfl, hs⟩, _⟩ := hr
      simp only [o_cons, o_nil, o_ite, o_asg, o_ret, o_own, o_cel, o_app, o_setC, e_var, e_peek, e_lit, e_bin, e_cmp, e_not, e_and, e_or, e_isk, e_ix, p_no, p_at, e_slice, e_rev, e_tup, e_lst, e_call, e_blt, e_isi, e_sset, e_sumL, e_mth, e_mk, es_cons, es_nil, s_ok, s_bind, s_of, List.map_cons, List.map_nil, List.cons_append, List.nil_append, List.replicate, Nat.reduceSub, List.getElem?_cons_zero, List.getElem?_cons_succ, List.set_cons_zero, List.set_cons_succ, ex_iteo, ex_iteno, ex_some, ex_sl, ex_own, ex_map, ex_bl, ex_int, ex_str, ex_lst, if_tt, if_ff, if_dec, if_not, rd_non, rd_bl, rdd_int, rdd_str, rd_tup, rd_lst, rd_scr, b_add, b_sub, b_mul, b_fdiv, b_mod, b_pow, b_cat, b_catL, b_catT, c_lt, c_gt, c_le, c_ge, c_eq, c_ne, c_eqs, c_nes, c_eqb, c_neb, t_bl, l_str, l_lst, l_tup, l_scr, m_min, m_max, m_tup, m_lst, m_intb, m_inti, i_lst, i_tup, i_str, i_scr, at0, at1, at2, ne_eq, Int.reduceEq, Int.reduceNe, not_false_eq_true, decide_true, decide_false, Int.reduceAbs, Int.reduceLE, Int.reduceLT, Int.reduceToNat, Int.reduceAdd, Nat.reduceLT, Nat.reduceLeDiff, Nat.reducePow, Bool.and_self, Bool.true_and, true_and, and_true, List.length_cons, List.length_nil, Nat.reduceAdd, i_seq, i_rng1, i_rng2, o_expr, o_retn, o_pass, o_retown, o_frz, o_appC, e_neg, e_kon, e_lset, e_chain, e_sumL, sz, w_tup, w_lst, w_str, ex_tup, set_nil, set_cons, ty_str, ty_lst, ty_tup, ty_bool, o_asgTu, Bool.not_true, Bool.not_false, i_own, i_cel, o_rem, if_true, if_false]
      rw [if_pos hs, in_ints (are_ints ns)]
      simp only [o_cons, o_nil, o_ite, o_asg, o_ret, o_own, o_cel, o_app, o_setC, e_var, e_peek, e_lit, e_bin, e_cmp, e_not, e_and, e_or, e_isk, e_ix, p_no, p_at, e_slice, e_rev, e_tup, e_lst, e_call, e_blt, e_isi, e_sset, e_sumL, e_mth, e_mk, es_cons, es_nil, s_ok, s_bind, s_of, List.map_cons, List.map_nil, List.cons_append, List.nil_append, List.replicate, Nat.reduceSub, List.getElem?_cons_zero, List.getElem?_cons_succ, List.set_cons_zero, List.set_cons_succ, ex_iteo, ex_iteno, ex_some, ex_sl, ex_own, ex_map, ex_bl, ex_int, ex_str, ex_lst, if_tt, if_ff, if_dec, if_not, rd_non, rd_bl, rdd_int, rdd_str, rd_tup, rd_lst, rd_scr, b_add, b_sub, b_mul, b_fdiv, b_mod, b_pow, b_cat, b_catL, b_catT, c_lt, c_gt, c_le, c_ge, c_eq, c_ne, c_eqs, c_nes, c_eqb, c_neb, t_bl, l_str, l_lst, l_tup, l_scr, m_min, m_max, m_tup, m_lst, m_intb, m_inti, i_lst, i_tup, i_str, i_scr, at0, at1, at2, ne_eq, Int.reduceEq, Int.reduceNe, not_false_eq_true, decide_true, decide_false, Int.reduceAbs, Int.reduceLE, Int.reduceLT, Int.reduceToNat, Int.reduceAdd, Nat.reduceLT, Nat.reduceLeDiff, Nat.reducePow, Bool.and_self, Bool.true_and, true_and, and_true, List.length_cons, List.length_nil, Nat.reduceAdd, i_seq, i_rng1, i_rng2, o_expr, o_retn, o_pass, o_retown, o_frz, o_appC, e_neg, e_kon, e_lset, e_chain, e_sumL, sz, w_tup, w_lst, w_str, ex_tup, set_nil, set_cons, ty_str, ty_lst, ty_tup, ty_bool, o_asgTu, Bool.not_true, Bool.not_false, i_own, i_cel, o_rem, if_true, if_false]
      rw [show ((ns.map D.int).any fun z => eqv z (.int f)) = inn ns f from congrFun (pin_ints ns) f]
      exact q
    · rw [hld_some] at q
      simp only [o_cons, o_nil, o_ite, o_asg, o_ret, o_own, o_cel, o_app, o_setC, e_var, e_peek, e_lit, e_bin, e_cmp, e_not, e_and, e_or, e_isk, e_ix, p_no, p_at, e_slice, e_rev, e_tup, e_lst, e_call, e_blt, e_isi, e_sset, e_sumL, e_mth, e_mk, es_cons, es_nil, s_ok, s_bind, s_of, List.map_cons, List.map_nil, List.cons_append, List.nil_append, List.replicate, Nat.reduceSub, List.getElem?_cons_zero, List.getElem?_cons_succ, List.set_cons_zero, List.set_cons_succ, ex_iteo, ex_iteno, ex_some, ex_sl, ex_own, ex_map, ex_bl, ex_int, ex_str, ex_lst, if_tt, if_ff, if_dec, if_not, rd_non, rd_bl, rdd_int, rdd_str, rd_tup, rd_lst, rd_scr, b_add, b_sub, b_mul, b_fdiv, b_mod, b_pow, b_cat, b_catL, b_catT, c_lt, c_gt, c_le, c_ge, c_eq, c_ne, c_eqs, c_nes, c_eqb, c_neb, t_bl, l_str, l_lst, l_tup, l_scr, m_min, m_max, m_tup, m_lst, m_intb, m_inti, i_lst, i_tup, i_str, i_scr, at0, at1, at2, ne_eq, Int.reduceEq, Int.reduceNe, not_false_eq_true, decide_true, decide_false, Int.reduceAbs, Int.reduceLE, Int.reduceLT, Int.reduceToNat, Int.reduceAdd, Nat.reduceLT, Nat.reduceLeDiff, Nat.reducePow, Bool.and_self, Bool.true_and, true_and, and_true, List.length_cons, List.length_nil, Nat.reduceAdd, i_seq, i_rng1, i_rng2, o_expr, o_retn, o_pass, o_retown, o_frz, o_appC, e_neg, e_kon, e_lset, e_chain, e_sumL, sz, w_tup, w_lst, w_str, ex_tup, set_nil, set_cons, ty_str, ty_lst, ty_tup, ty_bool, o_asgTu, Bool.not_true, Bool.not_false, i_own, i_cel, o_rem, if_true, if_false]
      rw [if_neg (by simp)]
      refine o_for ?_
      simp only [o_nil, o_ite, o_asg, o_ret, o_own, o_cel, o_app, o_setC, e_var, e_peek, e_lit, e_bin, e_cmp, e_not, e_and, e_or, e_isk, e_ix, p_no, p_at, e_slice, e_rev, e_tup, e_lst, e_call, e_blt, e_isi, e_sset, e_sumL, e_mth, e_mk, es_cons, es_nil, s_ok, s_bind, s_of, List.map_cons, List.map_nil, List.cons_append, List.nil_append, List.replicate, Nat.reduceSub, List.getElem?_cons_zero, List.getElem?_cons_succ, List.set_cons_zero, List.set_cons_succ, ex_iteo, ex_iteno, ex_some, ex_sl, ex_own, ex_map, ex_bl, ex_int, ex_str, ex_lst, if_tt, if_ff, if_dec, if_not, rd_non, rd_bl, rdd_int, rdd_str, rd_tup, rd_lst, rd_scr, b_add, b_sub, b_mul, b_fdiv, b_mod, b_pow, b_cat, b_catL, b_catT, c_lt, c_gt, c_le, c_ge, c_eq, c_ne, c_eqs, c_nes, c_eqb, c_neb, t_bl, l_str, l_lst, l_tup, l_scr, m_min, m_max, m_tup, m_lst, m_intb, m_inti, i_lst, i_tup, i_str, i_scr, at0, at1, at2, ne_eq, Int.reduceEq, Int.reduceNe, not_false_eq_true, decide_true, decide_false, Int.reduceAbs, Int.reduceLE, Int.reduceLT, Int.reduceToNat, Int.reduceAdd, Nat.reduceLT, Nat.reduceLeDiff, Nat.reducePow, Bool.and_self, Bool.true_and, true_and, and_true, List.length_cons, List.length_nil, Nat.reduceAdd, i_seq, i_rng1, i_rng2, o_expr, o_retn, o_pass, o_retown, o_frz, o_appC, e_neg, e_kon, e_lset, e_chain, e_sumL, sz, w_tup, w_lst, w_str, ex_tup, set_nil, set_cons, ty_str, ty_lst, ty_tup, ty_bool, o_asgTu, Bool.not_true, Bool.not_false, i_own, i_cel, o_rem, if_true, if_false]
      refine ⟨fun j σ h' => j ≤ rs.length → h' = h ∧ ∃ s4, σ = [.v (.tup [.str tSome, .int k, .tup rs]), .v (.lst (ns.map D.int)), .v (.int (cnt (fun f => !(inn ns f)) d (rs.take j) f).2), .v (.int (j - (cnt (fun f => !(inn ns f)) d (rs.take j) f).1)), s4], fun _ => ⟨rfl, _, rfl⟩, ?_, ?_⟩
      · rintro j x σ h' ex I
        have lj : j < rs.length := (List.getElem?_eq_some_iff.mp ex).1
        obtain ⟨rfl, s4, rfl⟩ := I (Nat.le_of_lt lj)
        refine ⟨_, rfl, ?_⟩
        simp only [o_cons, o_nil, o_ite, o_asg, o_ret, o_own, o_cel, o_app, o_setC, e_var, e_peek, e_lit, e_bin, e_cmp, e_not, e_and, e_or, e_isk, e_ix, p_no, p_at, e_slice, e_rev, e_tup, e_lst, e_call, e_blt, e_isi, e_sset, e_sumL, e_mth, e_mk, es_cons, es_nil, s_ok, s_bind, s_of, List.map_cons, List.map_nil, List.cons_append, List.nil_append, List.replicate, Nat.reduceSub, List.getElem?_cons_zero, List.getElem?_cons_succ, List.set_cons_zero, List.set_cons_succ, ex_iteo, ex_iteno, ex_some, ex_sl, ex_own, ex_map, ex_bl, ex_int, ex_str, ex_lst, if_tt, if_ff, if_dec, if_not, rd_non, rd_bl, rdd_int, rdd_str, rd_tup, rd_lst, rd_scr, b_add, b_sub, b_mul, b_fdiv, b_mod, b_pow, b_cat, b_catL, b_catT, c_lt, c_gt, c_le, c_ge, c_eq, c_ne, c_eqs, c_nes, c_eqb, c_neb, t_bl, l_str, l_lst, l_tup, l_scr, m_min, m_max, m_tup, m_lst, m_intb, m_inti, i_lst, i_tup, i_str, i_scr, at0, at1, at2, ne_eq, Int.reduceEq, Int.reduceNe, not_false_eq_true, decide_true, decide_false, Int.reduceAbs, Int.reduceLE, Int.reduceLT, Int.reduceToNat, Int.reduceAdd, Nat.reduceLT, Nat.reduceLeDiff, Nat.reducePow, Bool.and_self, Bool.true_and, true_and, and_true, List.length_cons, List.length_nil, Nat.reduceAdd, i_seq, i_rng1, i_rng2, o_expr, o_retn, o_pass, o_retown, o_frz, o_appC, e_neg, e_kon, e_lset, e_chain, e_sumL, sz, w_tup, w_lst, w_str, ex_tup, set_nil, set_cons, ty_str, ty_lst, ty_tup, ty_bool, o_asgTu, Bool.not_true, Bool.not_false, i_own, i_cel, o_rem, if_true, if_false]
        refine ih M x _ h' (by omega) (hr x (List.mem_of_getElem? ex)) _ ?_
        simp only [o_cons, o_nil, o_ite, o_asg, o_ret, o_own, o_cel, o_app, o_setC, e_var, e_peek, e_lit, e_bin, e_cmp, e_not, e_and, e_or, e_isk, e_ix, p_no, p_at, e_slice, e_rev, e_tup, e_lst, e_call, e_blt, e_isi, e_sset, e_sumL, e_mth, e_mk, es_cons, es_nil, s_ok, s_bind, s_of, List.map_cons, List.map_nil, List.cons_append, List.nil_append, List.replicate, Nat.reduceSub, List.getElem?_cons_zero, List.getElem?_cons_succ, List.set_cons_zero, List.set_cons_succ, ex_iteo, ex_iteno, ex_some, ex_sl, ex_own, ex_map, ex_bl, ex_int, ex_str, ex_lst, if_tt, if_ff, if_dec, if_not, rd_non, rd_bl, rdd_int, rdd_str, rd_tup, rd_lst, rd_scr, b_add, b_sub, b_mul, b_fdiv, b_mod, b_pow, b_cat, b_catL, b_catT, c_lt, c_gt, c_le, c_ge, c_eq, c_ne, c_eqs, c_nes, c_eqb, c_neb, t_bl, l_str, l_lst, l_tup, l_scr, m_min, m_max, m_tup, m_lst, m_intb, m_inti, i_lst, i_tup, i_str, i_scr, at0, at1, at2, ne_eq, Int.reduceEq, Int.reduceNe, not_false_eq_true, decide_true, decide_false, Int.reduceAbs, Int.reduceLE, Int.reduceLT, Int.reduceToNat, Int.reduceAdd, Nat.reduceLT, Nat.reduceLeDiff, Nat.reducePow, Bool.and_self, Bool.true_and, true_and, and_true, List.length_cons, List.length_nil, Nat.reduceAdd, i_seq, i_rng1, i_rng2, o_expr, o_retn, o_pass, o_retown, o_frz, o_appC, e_neg, e_kon, e_lset, e_chain, e_sumL, sz, w_tup, w_lst, w_str, ex_tup, set_nil, set_cons, ty_str, ty_lst, ty_tup, ty_bool, o_asgTu, Bool.not_true, Bool.not_false, i_own, i_cel, o_rem, if_true, if_false]
        refine many_sat e d M x h' (by omega) (hr x (List.mem_of_getElem? ex)) _ ?_
        simp only [o_cons, o_nil, o_ite, o_asg, o_ret, o_own, o_cel, o_app, o_setC, e_var, e_peek, e_lit, e_bin, e_cmp, e_not, e_and, e_or, e_isk, e_ix, p_no, p_at, e_slice, e_rev, e_tup, e_lst, e_call, e_blt, e_isi, e_sset, e_sumL, e_mth, e_mk, es_cons, es_nil, s_ok, s_bind, s_of, List.map_cons, List.map_nil, List.cons_append, List.nil_append, List.replicate, Nat.reduceSub, List.getElem?_cons_zero, List.getElem?_cons_succ, List.set_cons_zero, List.set_cons_succ, ex_iteo, ex_iteno, ex_some, ex_sl, ex_own, ex_map, ex_bl, ex_int, ex_str, ex_lst, if_tt, if_ff, if_dec, if_not, rd_non, rd_bl, rdd_int, rdd_str, rd_tup, rd_lst, rd_scr, b_add, b_sub, b_mul, b_fdiv, b_mod, b_pow, b_cat, b_catL, b_catT, c_lt, c_gt, c_le, c_ge, c_eq, c_ne, c_eqs, c_nes, c_eqb, c_neb, t_bl, l_str, l_lst, l_tup, l_scr, m_min, m_max, m_tup, m_lst, m_intb, m_inti, i_lst, i_tup, i_str, i_scr, at0, at1, at2, ne_eq, Int.reduceEq, Int.reduceNe, not_false_eq_true, decide_true, decide_false, Int.reduceAbs, Int.reduceLE, Int.reduceLT, Int.reduceToNat, Int.reduceAdd, Nat.reduceLT, Nat.reduceLeDiff, Nat.reducePow, Bool.and_self, Bool.true_and, true_and, and_true, List.length_cons, List.length_nil, Nat.reduceAdd, i_seq, i_rng1, i_rng2, o_expr, o_retn, o_pass, o_retown, o_frz, o_appC, e_neg, e_kon, e_lset, e_chain, e_sumL, sz, w_tup, w_lst, w_str, ex_tup, set_nil, set_cons, ty_str, ty_lst, ty_tup, ty_bool, o_asgTu, Bool.not_true, Bool.not_false, i_own, i_cel, o_rem, if_true, if_false]
        rw [cnt_take ex]
        refine fun _ => ⟨.v x, ?_⟩
        cases hld (fun f => !(inn ns f)) d x (cnt (fun f => !(inn ns f)) d (rs.take j) f).2 with
        | true =>
          simp only [Bool.not_true, if_true, if_neg Bool.false_ne_true]
          refine congrArg (fun z => [_, _, _, Sl.v (D.int z), _]) ?_
          push_cast; omega
        | false =>
          simp only [Bool.not_false, if_true, if_neg Bool.false_ne_true]
          refine congrArg (fun z => [_, _, _, Sl.v (D.int z), _]) ?_
          push_cast; omega
      · rintro σ h' I
        obtain ⟨rfl, s4, rfl⟩ := I (Nat.le_refl _)
        rw [List.take_length]
        simp only [o_cons, o_nil, o_ite, o_asg, o_ret, o_own, o_cel, o_app, o_setC, e_var, e_peek, e_lit, e_bin, e_cmp, e_not, e_and, e_or, e_isk, e_ix, p_no, p_at, e_slice, e_rev, e_tup, e_lst, e_call, e_blt, e_isi, e_sset, e_sumL, e_mth, e_mk, es_cons, es_nil, s_ok, s_bind, s_of, List.map_cons, List.map_nil, List.cons_append, List.nil_append, List.replicate, Nat.reduceSub, List.getElem?_cons_zero, List.getElem?_cons_succ, List.set_cons_zero, List.set_cons_succ, ex_iteo, ex_iteno, ex_some, ex_sl, ex_own, ex_map, ex_bl, ex_int, ex_str, ex_lst, if_tt, if_ff, if_dec, if_not, rd_non, rd_bl, rdd_int, rdd_str, rd_tup, rd_lst, rd_scr, b_add, b_sub, b_mul, b_fdiv, b_mod, b_pow, b_cat, b_catL, b_catT, c_lt, c_gt, c_le, c_ge, c_eq, c_ne, c_eqs, c_nes, c_eqb, c_neb, t_bl, l_str, l_lst, l_tup, l_scr, m_min, m_max, m_tup, m_lst, m_intb, m_inti, i_lst, i_tup, i_str, i_scr, at0, at1, at2, ne_eq, Int.reduceEq, Int.reduceNe, not_false_eq_true, decide_true, decide_false, Int.reduceAbs, Int.reduceLE, Int.reduceLT, Int.reduceToNat, Int.reduceAdd, Nat.reduceLT, Nat.reduceLeDiff, Nat.reducePow, Bool.and_self, Bool.true_and, true_and, and_true, List.length_cons, List.length_nil, Nat.reduceAdd, i_seq, i_rng1, i_rng2, o_expr, o_retn, o_pass, o_retown, o_frz, o_appC, e_neg, e_kon, e_lset, e_chain, e_sumL, sz, w_tup, w_lst, w_str, ex_tup, set_nil, set_cons, ty_str, ty_lst, ty_tup, ty_bool, o_asgTu, Bool.not_true, Bool.not_false, i_own, i_cel, o_rem, if_true, if_false]
        have eq : (!(decide (k ≤ (cnt (fun f => !(inn ns f)) d rs f).1))) = decide ((rs.length : Int) - ((rs.length : Int) - (cnt (fun f => !(inn ns f)) d rs f).1) < k) := by
          rw [Bool.eq_iff_iff]
          simp only [Bool.not_eq_true', decide_eq_false_iff_not, decide_eq_true_eq]
          omega
        rw [eq] at q
        exact q
end Lb.K14
end
section
set_option Elab.async false
set_option linter.all false
set_option maxRecDepth 100000
namespace Lb.K14
open Lb Lb.Dr Lb.Rl
theorem notin_ints {ns : List Int} {k : Int} : cmp .notin (.int k) (.lst (ns.map D.int)) = some (!(inn ns k)) := by
  show (isIn (.int k) (.lst (ns.map D.int))).map (fun b => !b) = _
  have e : isIn (.int k) (.lst (ns.map D.int)) = some (pin (ns.map D.int) k) := in_ints (are_ints ns)
  rw [e, pin_ints]; rfl
theorem inn_range {L : Nat} {ns : List Int} {i : Int} (h0 : 0 ≤ i) (h1 : i < L) : inn ((((List.range L).map (fun (k : Nat) => (0 : Int) + (k : Int))).filter (fun k => !(inn ns k)))) i = !(inn ns i) := by
  unfold inn
  rw [Bool.eq_iff_iff, decide_eq_true_eq, List.mem_filter]
  constructor
  · exact fun z => z.2
  · exact fun z => ⟨List.mem_map.mpr ⟨i.toNat, List.mem_range.mpr (by omega), by omega⟩, z⟩
variable {E : Env} (e : En E)
include e
theorem bars_sat {d N : Nat} {r s : D} {ns : List Int} {h : Heap} (hN : d + 4 ≤ N) (h4 : d ≤ 4) (hr : Ru d r) (hs : ∀ h', Gr h h' → rd h' s = .lst (ns.map D.int)) (P : D → Heap → Prop) (q : ∀ h', Gr h h' → P (.bl (Bn d r ns)) h') : sat (callN E N 220 [r, s] h) P := by
  obtain ⟨M, rfl⟩ : ∃ M, N = M + 2 := ⟨N - 2, by omega⟩
  refine call_sat e.bars rfl ?_
  unfold fd_bars_2
  simp only [o_cons, o_nil, o_ite, o_asg, o_ret, o_own, o_cel, o_app, o_setC, e_var, e_peek, e_lit, e_bin, e_cmp, e_not, e_and, e_or, e_isk, e_ix, p_no, p_at, e_slice, e_rev, e_tup, e_lst, e_call, e_blt, e_isi, e_sset, e_sumL, e_mth, e_mk, es_cons, es_nil, s_ok, s_bind, s_of, List.map_cons, List.map_nil, List.cons_append, List.nil_append, List.replicate, Nat.reduceSub, List.getElem?_cons_zero, List.getElem?_cons_succ, List.set_cons_zero, List.set_cons_succ, ex_iteo, ex_iteno, ex_some, ex_sl, ex_own, ex_map, ex_bl, ex_int, ex_str, ex_lst, if_tt, if_ff, if_dec, if_not, rd_non, rd_bl, rdd_int, rdd_str, rd_tup, rd_lst, rd_scr, b_add, b_sub, b_mul, b_fdiv, b_mod, b_pow, b_cat, b_catL, b_catT, c_lt, c_gt, c_le, c_ge, c_eq, c_ne, c_eqs, c_nes, c_eqb, c_neb, t_bl, l_str, l_lst, l_tup, l_scr, m_min, m_max, m_tup, m_lst, m_intb, m_inti, i_lst, i_tup, i_str, i_scr, at0, at1, at2, ne_eq, Int.reduceEq, Int.reduceNe, not_false_eq_true, decide_true, decide_false, Int.reduceAbs, Int.reduceLE, Int.reduceLT, Int.reduceToNat, Int.reduceAdd, Nat.reduceLT, Nat.reduceLeDiff, Nat.reducePow, Bool.and_self, Bool.true_and, true_and, and_true, List.length_cons, List.length_nil, Nat.reduceAdd, i_seq, i_rng1, i_rng2, o_expr, o_retn, o_pass, o_retown, o_frz, o_appC, e_neg, e_kon, e_lset, e_chain, e_sumL, sz, w_tup, w_lst, w_str, ex_tup, set_nil, set_cons, ty_str, ty_lst, ty_tup, ty_bool, o_asgTu, Bool.not_true, Bool.not_false, i_own, i_cel, o_rem, if_true, if_false]
  have l4 := ats_len4 hr h4
  refine sat.mono (P := fun x h1 => Gr h h1 ∧ x = .lst ((((List.range (ats d r).length).map (fun (k : Nat) => (0 : Int) + (k : Int))).filter (fun k => !(inn ns k))).map D.int)) ?_ ?_
  · refine sat.mono (P := fun x h1 => Gr h h1 ∧ x = .lst ((((List.range (ats d r).length).map (fun (k : Nat) => (0 : Int) + (k : Int))).filter (fun k => !(inn ns k))).map D.int)) ?_ fun _ _ z => z
    have step : ∀ h1, Gr h h1 → sat (evI (callN E (M + 1)) [.v r, .v s, .no] (.rng1 (.blt .len (.cons (.call 216 (.cons (.var 0) .nil)) .nil))) h1) (fun xs h2 => xs = ((List.range (ats d r).length).map (fun (k : Nat) => (0 : Int) + (k : Int))).map D.int ∧ Gr h1 h2) := by
      intro h1 g1
      simp only [o_cons, o_nil, o_ite, o_asg, o_ret, o_own, o_cel, o_app, o_setC, e_var, e_peek, e_lit, e_bin, e_cmp, e_not, e_and, e_or, e_isk, e_ix, p_no, p_at, e_slice, e_rev, e_tup, e_lst, e_call, e_blt, e_isi, e_sset, e_sumL, e_mth, e_mk, es_cons, es_nil, s_ok, s_bind, s_of, List.map_cons, List.map_nil, List.cons_append, List.nil_append, List.replicate, Nat.reduceSub, List.getElem?_cons_zero, List.getElem?_cons_succ, List.set_cons_zero, List.set_cons_succ, ex_iteo, ex_iteno, ex_some, ex_sl, ex_own, ex_map, ex_bl, ex_int, ex_str, ex_lst, if_tt, if_ff, if_dec, if_not, rd_non, rd_bl, rdd_int, rdd_str, rd_tup, rd_lst, rd_scr, b_add, b_sub, b_mul, b_fdiv, b_mod, b_pow, b_cat, b_catL, b_catT, c_lt, c_gt, c_le, c_ge, c_eq, c_ne, c_eqs, c_nes, c_eqb, c_neb, t_bl, l_str, l_lst, l_tup, l_scr, m_min, m_max, m_tup, m_lst, m_intb, m_inti, i_lst, i_tup, i_str, i_scr, at0, at1, at2, ne_eq, Int.reduceEq, Int.reduceNe, not_false_eq_true, decide_true, decide_false, Int.reduceAbs, Int.reduceLE, Int.reduceLT, Int.reduceToNat, Int.reduceAdd, Nat.reduceLT, Nat.reduceLeDiff, Nat.reducePow, Bool.and_self, Bool.true_and, true_and, and_true, List.length_cons, List.length_nil, Nat.reduceAdd, i_seq, i_rng1, i_rng2, o_expr, o_retn, o_pass, o_retown, o_frz, o_appC, e_neg, e_kon, e_lset, e_chain, e_sumL, sz, w_tup, w_lst, w_str, ex_tup, set_nil, set_cons, ty_str, ty_lst, ty_tup, ty_bool, o_asgTu, Bool.not_true, Bool.not_false, i_own, i_cel, o_rem, if_true, if_false]
      refine atomsP_sat e.toEn d (M + 1) r h1 (by omega) h4 hr _ fun b h2 eb lb g2 => ?_
      rw [rd_cell eb]
      simp only [o_cons, o_nil, o_ite, o_asg, o_ret, o_own, o_cel, o_app, o_setC, e_var, e_peek, e_lit, e_bin, e_cmp, e_not, e_and, e_or, e_isk, e_ix, p_no, p_at, e_slice, e_rev, e_tup, e_lst, e_call, e_blt, e_isi, e_sset, e_sumL, e_mth, e_mk, es_cons, es_nil, s_ok, s_bind, s_of, List.map_cons, List.map_nil, List.cons_append, List.nil_append, List.replicate, Nat.reduceSub, List.getElem?_cons_zero, List.getElem?_cons_succ, List.set_cons_zero, List.set_cons_succ, ex_iteo, ex_iteno, ex_some, ex_sl, ex_own, ex_map, ex_bl, ex_int, ex_str, ex_lst, if_tt, if_ff, if_dec, if_not, rd_non, rd_bl, rdd_int, rdd_str, rd_tup, rd_lst, rd_scr, b_add, b_sub, b_mul, b_fdiv, b_mod, b_pow, b_cat, b_catL, b_catT, c_lt, c_gt, c_le, c_ge, c_eq, c_ne, c_eqs, c_nes, c_eqb, c_neb, t_bl, l_str, l_lst, l_tup, l_scr, m_min, m_max, m_tup, m_lst, m_intb, m_inti, i_lst, i_tup, i_str, i_scr, at0, at1, at2, ne_eq, Int.reduceEq, Int.reduceNe, not_false_eq_true, decide_true, decide_false, Int.reduceAbs, Int.reduceLE, Int.reduceLT, Int.reduceToNat, Int.reduceAdd, Nat.reduceLT, Nat.reduceLeDiff, Nat.reducePow, Bool.and_self, Bool.true_and, true_and, and_true, List.length_cons, List.length_nil, Nat.reduceAdd, i_seq, i_rng1, i_rng2, o_expr, o_retn, o_pass, o_retown, o_frz, o_appC, e_neg, e_kon, e_lset, e_chain, e_sumL, sz, w_tup, w_lst, w_str, ex_tup, set_nil, set_cons, ty_str, ty_lst, ty_tup, ty_bool, o_asgTu, Bool.not_true, Bool.not_false, i_own, i_cel, o_rem, if_true, if_false]
      refine ⟨rng_in (by omega) (by omega), ?_, g2⟩
      rw [Int.toNat_natCast]
      exact rng_ints 0 _
    obtain ⟨xs, h2, ei, exs, g2⟩ := (step h Gr.refl).get
    refine filt (h1 := h2) (ns := (List.range (ats d r).length).map (fun (k : Nat) => (0 : Int) + (k : Int))) (fun k => !(inn ns k)) (by simp) (by rw [List.length_map, List.length_range]; show _ ≤ 16777216; omega) ?_ trivial ?_ ⟨g2, rfl⟩
    · rw [sat_eq]
      rw [ei]
      exact ⟨exs, rfl⟩
    · intro k hk
      simp only [o_cons, o_nil, o_ite, o_asg, o_ret, o_own, o_cel, o_app, o_setC, e_var, e_peek, e_lit, e_bin, e_cmp, e_not, e_and, e_or, e_isk, e_ix, p_no, p_at, e_slice, e_rev, e_tup, e_lst, e_call, e_blt, e_isi, e_sset, e_sumL, e_mth, e_mk, es_cons, es_nil, s_ok, s_bind, s_of, List.map_cons, List.map_nil, List.cons_append, List.nil_append, List.replicate, Nat.reduceSub, List.getElem?_cons_zero, List.getElem?_cons_succ, List.set_cons_zero, List.set_cons_succ, ex_iteo, ex_iteno, ex_some, ex_sl, ex_own, ex_map, ex_bl, ex_int, ex_str, ex_lst, if_tt, if_ff, if_dec, if_not, rd_non, rd_bl, rdd_int, rdd_str, rd_tup, rd_lst, rd_scr, b_add, b_sub, b_mul, b_fdiv, b_mod, b_pow, b_cat, b_catL, b_catT, c_lt, c_gt, c_le, c_ge, c_eq, c_ne, c_eqs, c_nes, c_eqb, c_neb, t_bl, l_str, l_lst, l_tup, l_scr, m_min, m_max, m_tup, m_lst, m_intb, m_inti, i_lst, i_tup, i_str, i_scr, at0, at1, at2, ne_eq, Int.reduceEq, Int.reduceNe, not_false_eq_true, decide_true, decide_false, Int.reduceAbs, Int.reduceLE, Int.reduceLT, Int.reduceToNat, Int.reduceAdd, Nat.reduceLT, Nat.reduceLeDiff, Nat.reducePow, Bool.and_self, Bool.true_and, true_and, and_true, List.length_cons, List.length_nil, Nat.reduceAdd, i_seq, i_rng1, i_rng2, o_expr, o_retn, o_pass, o_retown, o_frz, o_appC, e_neg, e_kon, e_lset, e_chain, e_sumL, sz, w_tup, w_lst, w_str, ex_tup, set_nil, set_cons, ty_str, ty_lst, ty_tup, ty_bool, o_asgTu, Bool.not_true, Bool.not_false, i_own, i_cel, o_rem, if_true, if_false, wipe]
      rw [hs h2 g2, notin_ints]
      simp only [o_cons, o_nil, o_ite, o_asg, o_ret, o_own, o_cel, o_app, o_setC, e_var, e_peek, e_lit, e_bin, e_cmp, e_not, e_and, e_or, e_isk, e_ix, p_no, p_at, e_slice, e_rev, e_tup, e_lst, e_call, e_blt, e_isi, e_sset, e_sumL, e_mth, e_mk, es_cons, es_nil, s_ok, s_bind, s_of, List.map_cons, List.map_nil, List.cons_append, List.nil_append, List.replicate, Nat.reduceSub, List.getElem?_cons_zero, List.getElem?_cons_succ, List.set_cons_zero, List.set_cons_succ, ex_iteo, ex_iteno, ex_some, ex_sl, ex_own, ex_map, ex_bl, ex_int, ex_str, ex_lst, if_tt, if_ff, if_dec, if_not, rd_non, rd_bl, rdd_int, rdd_str, rd_tup, rd_lst, rd_scr, b_add, b_sub, b_mul, b_fdiv, b_mod, b_pow, b_cat, b_catL, b_catT, c_lt, c_gt, c_le, c_ge, c_eq, c_ne, c_eqs, c_nes, c_eqb, c_neb, t_bl, l_str, l_lst, l_tup, l_scr, m_min, m_max, m_tup, m_lst, m_intb, m_inti, i_lst, i_tup, i_str, i_scr, at0, at1, at2, ne_eq, Int.reduceEq, Int.reduceNe, not_false_eq_true, decide_true, decide_false, Int.reduceAbs, Int.reduceLE, Int.reduceLT, Int.reduceToNat, Int.reduceAdd, Nat.reduceLT, Nat.reduceLeDiff, Nat.reducePow, Bool.and_self, Bool.true_and, true_and, and_true, List.length_cons, List.length_nil, Nat.reduceAdd, i_seq, i_rng1, i_rng2, o_expr, o_retn, o_pass, o_retown, o_frz, o_appC, e_neg, e_kon, e_lset, e_chain, e_sumL, sz, w_tup, w_lst, w_str, ex_tup, set_nil, set_cons, ty_str, ty_lst, ty_tup, ty_bool, o_asgTu, Bool.not_true, Bool.not_false, i_own, i_cel, o_rem, if_true, if_false]
  · rintro x h1 ⟨g1, rfl⟩
    refine call_sat e.holds rfl ?_
    unfold fd_holds
    simp only [o_cons, o_nil, o_ite, o_asg, o_ret, o_own, o_cel, o_app, o_setC, e_var, e_peek, e_lit, e_bin, e_cmp, e_not, e_and, e_or, e_isk, e_ix, p_no, p_at, e_slice, e_rev, e_tup, e_lst, e_call, e_blt, e_isi, e_sset, e_sumL, e_mth, e_mk, es_cons, es_nil, s_ok, s_bind, s_of, List.map_cons, List.map_nil, List.cons_append, List.nil_append, List.replicate, Nat.reduceSub, List.getElem?_cons_zero, List.getElem?_cons_succ, List.set_cons_zero, List.set_cons_succ, ex_iteo, ex_iteno, ex_some, ex_sl, ex_own, ex_map, ex_bl, ex_int, ex_str, ex_lst, if_tt, if_ff, if_dec, if_not, rd_non, rd_bl, rdd_int, rdd_str, rd_tup, rd_lst, rd_scr, b_add, b_sub, b_mul, b_fdiv, b_mod, b_pow, b_cat, b_catL, b_catT, c_lt, c_gt, c_le, c_ge, c_eq, c_ne, c_eqs, c_nes, c_eqb, c_neb, t_bl, l_str, l_lst, l_tup, l_scr, m_min, m_max, m_tup, m_lst, m_intb, m_inti, i_lst, i_tup, i_str, i_scr, at0, at1, at2, ne_eq, Int.reduceEq, Int.reduceNe, not_false_eq_true, decide_true, decide_false, Int.reduceAbs, Int.reduceLE, Int.reduceLT, Int.reduceToNat, Int.reduceAdd, Nat.reduceLT, Nat.reduceLeDiff, Nat.reducePow, Bool.and_self, Bool.true_and, true_and, and_true, List.length_cons, List.length_nil, Nat.reduceAdd, i_seq, i_rng1, i_rng2, o_expr, o_retn, o_pass, o_retown, o_frz, o_appC, e_neg, e_kon, e_lset, e_chain, e_sumL, sz, w_tup, w_lst, w_str, ex_tup, set_nil, set_cons, ty_str, ty_lst, ty_tup, ty_bool, o_asgTu, Bool.not_true, Bool.not_false, i_own, i_cel, o_rem, if_true, if_false]
    refine holds_sat e.toEn (are_ints _) d M r 0 h1 (by omega) h4 hr _ fun h2 g2 => ?_
    simp only [o_cons, o_nil, o_ite, o_asg, o_ret, o_own, o_cel, o_app, o_setC, e_var, e_peek, e_lit, e_bin, e_cmp, e_not, e_and, e_or, e_isk, e_ix, p_no, p_at, e_slice, e_rev, e_tup, e_lst, e_call, e_blt, e_isi, e_sset, e_sumL, e_mth, e_mk, es_cons, es_nil, s_ok, s_bind, s_of, List.map_cons, List.map_nil, List.cons_append, List.nil_append, List.replicate, Nat.reduceSub, List.getElem?_cons_zero, List.getElem?_cons_succ, List.set_cons_zero, List.set_cons_succ, ex_iteo, ex_iteno, ex_some, ex_sl, ex_own, ex_map, ex_bl, ex_int, ex_str, ex_lst, if_tt, if_ff, if_dec, if_not, rd_non, rd_bl, rdd_int, rdd_str, rd_tup, rd_lst, rd_scr, b_add, b_sub, b_mul, b_fdiv, b_mod, b_pow, b_cat, b_catL, b_catT, c_lt, c_gt, c_le, c_ge, c_eq, c_ne, c_eqs, c_nes, c_eqb, c_neb, t_bl, l_str, l_lst, l_tup, l_scr, m_min, m_max, m_tup, m_lst, m_intb, m_inti, i_lst, i_tup, i_str, i_scr, at0, at1, at2, ne_eq, Int.reduceEq, Int.reduceNe, not_false_eq_true, decide_true, decide_false, Int.reduceAbs, Int.reduceLE, Int.reduceLT, Int.reduceToNat, Int.reduceAdd, Nat.reduceLT, Nat.reduceLeDiff, Nat.reducePow, Bool.and_self, Bool.true_and, true_and, and_true, List.length_cons, List.length_nil, Nat.reduceAdd, i_seq, i_rng1, i_rng2, o_expr, o_retn, o_pass, o_retown, o_frz, o_appC, e_neg, e_kon, e_lset, e_chain, e_sumL, sz, w_tup, w_lst, w_str, ex_tup, set_nil, set_cons, ty_str, ty_lst, ty_tup, ty_bool, o_asgTu, Bool.not_true, Bool.not_false, i_own, i_cel, o_rem, if_true, if_false]
    have eq : hld (pin ((((List.range (ats d r).length).map (fun (k : Nat) => (0 : Int) + (k : Int))).filter (fun k => !(inn ns k))).map D.int)) d r 0 = hld (fun f => !(inn ns f)) d r 0 := by
      rw [pin_ints]
      exact hld_congr hr fun i h1 h2 => inn_range h1 (by omega)
    rw [eq]
    exact q h2 (g1.trans g2)
theorem ltrim_sat {d N : Nat} {r : D} {ns : List Int} {h : Heap} (hN : d + 4 ≤ N) (hr : Ru d r) (hl : ns.length ≤ 1296) (nd : ns.Nodup) (P : D → Heap → Prop) (q : P (.lst ((tr (Bn d r) ns ns).map D.int)) h) : sat (callN E N 96 [r, .lst (ns.map D.int)] h) P := by
  obtain ⟨M, rfl⟩ : ∃ M, N = M + 1 := ⟨N - 1, by omega⟩
  refine call_sat e.ltrim rfl ?_
  unfold fd_law_trimmed
  simp only [o_cons, o_nil, o_ite, o_asg, o_ret, o_own, o_cel, o_app, o_setC, e_var, e_peek, e_lit, e_bin, e_cmp, e_not, e_and, e_or, e_isk, e_ix, p_no, p_at, e_slice, e_rev, e_tup, e_lst, e_call, e_blt, e_isi, e_sset, e_sumL, e_mth, e_mk, es_cons, es_nil, s_ok, s_bind, s_of, List.map_cons, List.map_nil, List.cons_append, List.nil_append, List.replicate, Nat.reduceSub, List.getElem?_cons_zero, List.getElem?_cons_succ, List.set_cons_zero, List.set_cons_succ, ex_iteo, ex_iteno, ex_some, ex_sl, ex_own, ex_map, ex_bl, ex_int, ex_str, ex_lst, if_tt, if_ff, if_dec, if_not, rd_non, rd_bl, rdd_int, rdd_str, rd_tup, rd_lst, rd_scr, b_add, b_sub, b_mul, b_fdiv, b_mod, b_pow, b_cat, b_catL, b_catT, c_lt, c_gt, c_le, c_ge, c_eq, c_ne, c_eqs, c_nes, c_eqb, c_neb, t_bl, l_str, l_lst, l_tup, l_scr, m_min, m_max, m_tup, m_lst, m_intb, m_inti, i_lst, i_tup, i_str, i_scr, at0, at1, at2, ne_eq, Int.reduceEq, Int.reduceNe, not_false_eq_true, decide_true, decide_false, Int.reduceAbs, Int.reduceLE, Int.reduceLT, Int.reduceToNat, Int.reduceAdd, Nat.reduceLT, Nat.reduceLeDiff, Nat.reducePow, Bool.and_self, Bool.true_and, true_and, and_true, List.length_cons, List.length_nil, Nat.reduceAdd, i_seq, i_rng1, i_rng2, o_expr, o_retn, o_pass, o_retown, o_frz, o_appC, e_neg, e_kon, e_lset, e_chain, e_sumL, sz, w_tup, w_lst, w_str, ex_tup, set_nil, set_cons, ty_str, ty_lst, ty_tup, ty_bool, o_asgTu, Bool.not_true, Bool.not_false, i_own, i_cel, o_rem, if_true, if_false]
  refine o_for ?_
  simp only [o_nil, o_ite, o_asg, o_ret, o_own, o_cel, o_app, o_setC, e_var, e_peek, e_lit, e_bin, e_cmp, e_not, e_and, e_or, e_isk, e_ix, p_no, p_at, e_slice, e_rev, e_tup, e_lst, e_call, e_blt, e_isi, e_sset, e_sumL, e_mth, e_mk, es_cons, es_nil, s_ok, s_bind, s_of, List.map_cons, List.map_nil, List.cons_append, List.nil_append, List.replicate, Nat.reduceSub, List.getElem?_cons_zero, List.getElem?_cons_succ, List.set_cons_zero, List.set_cons_succ, ex_iteo, ex_iteno, ex_some, ex_sl, ex_own, ex_map, ex_bl, ex_int, ex_str, ex_lst, if_tt, if_ff, if_dec, if_not, rd_non, rd_bl, rdd_int, rdd_str, rd_tup, rd_lst, rd_scr, b_add, b_sub, b_mul, b_fdiv, b_mod, b_pow, b_cat, b_catL, b_catT, c_lt, c_gt, c_le, c_ge, c_eq, c_ne, c_eqs, c_nes, c_eqb, c_neb, t_bl, l_str, l_lst, l_tup, l_scr, m_min, m_max, m_tup, m_lst, m_intb, m_inti, i_lst, i_tup, i_str, i_scr, at0, at1, at2, ne_eq, Int.reduceEq, Int.reduceNe, not_false_eq_true, decide_true, decide_false, Int.reduceAbs, Int.reduceLE, Int.reduceLT, Int.reduceToNat, Int.reduceAdd, Nat.reduceLT, Nat.reduceLeDiff, Nat.reducePow, Bool.and_self, Bool.true_and, true_and, and_true, List.length_cons, List.length_nil, Nat.reduceAdd, i_seq, i_rng1, i_rng2, o_expr, o_retn, o_pass, o_retown, o_frz, o_appC, e_neg, e_kon, e_lset, e_chain, e_sumL, sz, w_tup, w_lst, w_str, ex_tup, set_nil, set_cons, ty_str, ty_lst, ty_tup, ty_bool, o_asgTu, Bool.not_true, Bool.not_false, i_own, i_cel, o_rem, if_true, if_false]
  rw [List.length_map]
  refine ⟨rng_in (by omega) (by omega), fun j σ h' => h' = h ∧ ∃ F s3 s4 s5 s6, Inv (Bn d r) ns j F ∧ σ = [.v r, .v (.lst (ns.map D.int)), .own (F.map D.int), s3, s4, s5, s6], ⟨rfl, ns, _, _, _, _, inv_start _ nd, rfl⟩, ?_, ?_⟩
  · rintro j x σ h' ex ⟨rfl, F, s3, s4, s5, s6, I, rfl⟩
    obtain ⟨rfl, lj⟩ := rngL_at ex
    refine ⟨_, rfl, ?_⟩
    have lF : F.length ≤ 1296 := by have := I.1; omega
    rw [o_cons]; simp only [o_nil, o_ite, o_asg, o_ret, o_own, o_cel, o_app, o_setC, e_var, e_peek, e_lit, e_bin, e_cmp, e_not, e_and, e_or, e_isk, e_ix, p_no, p_at, e_slice, e_rev, e_tup, e_lst, e_call, e_blt, e_isi, e_sset, e_sumL, e_mth, e_mk, es_cons, es_nil, s_ok, s_bind, s_of, List.map_cons, List.map_nil, List.cons_append, List.nil_append, List.replicate, Nat.reduceSub, List.getElem?_cons_zero, List.getElem?_cons_succ, List.set_cons_zero, List.set_cons_succ, ex_iteo, ex_iteno, ex_some, ex_sl, ex_own, ex_map, ex_bl, ex_int, ex_str, ex_lst, if_tt, if_ff, if_dec, if_not, rd_non, rd_bl, rdd_int, rdd_str, rd_tup, rd_lst, rd_scr, b_add, b_sub, b_mul, b_fdiv, b_mod, b_pow, b_cat, b_catL, b_catT, c_lt, c_gt, c_le, c_ge, c_eq, c_ne, c_eqs, c_nes, c_eqb, c_neb, t_bl, l_str, l_lst, l_tup, l_scr, m_min, m_max, m_tup, m_lst, m_intb, m_inti, i_lst, i_tup, i_str, i_scr, at0, at1, at2, ne_eq, Int.reduceEq, Int.reduceNe, not_false_eq_true, decide_true, decide_false, Int.reduceAbs, Int.reduceLE, Int.reduceLT, Int.reduceToNat, Int.reduceAdd, Nat.reduceLT, Nat.reduceLeDiff, Nat.reducePow, Bool.and_self, Bool.true_and, true_and, and_true, List.length_cons, List.length_nil, Nat.reduceAdd, i_seq, i_rng1, i_rng2, o_expr, o_retn, o_pass, o_retown, o_frz, o_appC, e_neg, e_kon, e_lset, e_chain, e_sumL, sz, w_tup, w_lst, w_str, ex_tup, set_nil, set_cons, ty_str, ty_lst, ty_tup, ty_bool, o_asgTu, Bool.not_true, Bool.not_false, i_own, i_cel, o_rem, if_true, if_false]
    refine filt (h1 := h') (ns := F) (fun n => Bn d r (del F n)) (by simp) (by show _ ≤ 16777216; omega) (by simp only [o_cons, o_nil, o_ite, o_asg, o_ret, o_own, o_cel, o_app, o_setC, e_var, e_peek, e_lit, e_bin, e_cmp, e_not, e_and, e_or, e_isk, e_ix, p_no, p_at, e_slice, e_rev, e_tup, e_lst, e_call, e_blt, e_isi, e_sset, e_sumL, e_mth, e_mk, es_cons, es_nil, s_ok, s_bind, s_of, List.map_cons, List.map_nil, List.cons_append, List.nil_append, List.replicate, Nat.reduceSub, List.getElem?_cons_zero, List.getElem?_cons_succ, List.set_cons_zero, List.set_cons_succ, ex_iteo, ex_iteno, ex_some, ex_sl, ex_own, ex_map, ex_bl, ex_int, ex_str, ex_lst, if_tt, if_ff, if_dec, if_not, rd_non, rd_bl, rdd_int, rdd_str, rd_tup, rd_lst, rd_scr, b_add, b_sub, b_mul, b_fdiv, b_mod, b_pow, b_cat, b_catL, b_catT, c_lt, c_gt, c_le, c_ge, c_eq, c_ne, c_eqs, c_nes, c_eqb, c_neb, t_bl, l_str, l_lst, l_tup, l_scr, m_min, m_max, m_tup, m_lst, m_intb, m_inti, i_lst, i_tup, i_str, i_scr, at0, at1, at2, ne_eq, Int.reduceEq, Int.reduceNe, not_false_eq_true, decide_true, decide_false, Int.reduceAbs, Int.reduceLE, Int.reduceLT, Int.reduceToNat, Int.reduceAdd, Nat.reduceLT, Nat.reduceLeDiff, Nat.reducePow, Bool.and_self, Bool.true_and, true_and, and_true, List.length_cons, List.length_nil, Nat.reduceAdd, i_seq, i_rng1, i_rng2, o_expr, o_retn, o_pass, o_retown, o_frz, o_appC, e_neg, e_kon, e_lset, e_chain, e_sumL, sz, w_tup, w_lst, w_str, ex_tup, set_nil, set_cons, ty_str, ty_lst, ty_tup, ty_bool, o_asgTu, Bool.not_true, Bool.not_false, i_own, i_cel, o_rem, if_true, if_false]) trivial ?_ ?_
    · intro k hk
      simp only [o_cons, o_nil, o_ite, o_asg, o_ret, o_own, o_cel, o_app, o_setC, e_var, e_peek, e_lit, e_bin, e_cmp, e_not, e_and, e_or, e_isk, e_ix, p_no, p_at, e_slice, e_rev, e_tup, e_lst, e_call, e_blt, e_isi, e_sset, e_sumL, e_mth, e_mk, es_cons, es_nil, s_ok, s_bind, s_of, List.map_cons, List.map_nil, List.cons_append, List.nil_append, List.replicate, Nat.reduceSub, List.getElem?_cons_zero, List.getElem?_cons_succ, List.set_cons_zero, List.set_cons_succ, ex_iteo, ex_iteno, ex_some, ex_sl, ex_own, ex_map, ex_bl, ex_int, ex_str, ex_lst, if_tt, if_ff, if_dec, if_not, rd_non, rd_bl, rdd_int, rdd_str, rd_tup, rd_lst, rd_scr, b_add, b_sub, b_mul, b_fdiv, b_mod, b_pow, b_cat, b_catL, b_catT, c_lt, c_gt, c_le, c_ge, c_eq, c_ne, c_eqs, c_nes, c_eqb, c_neb, t_bl, l_str, l_lst, l_tup, l_scr, m_min, m_max, m_tup, m_lst, m_intb, m_inti, i_lst, i_tup, i_str, i_scr, at0, at1, at2, ne_eq, Int.reduceEq, Int.reduceNe, not_false_eq_true, decide_true, decide_false, Int.reduceAbs, Int.reduceLE, Int.reduceLT, Int.reduceToNat, Int.reduceAdd, Nat.reduceLT, Nat.reduceLeDiff, Nat.reducePow, Bool.and_self, Bool.true_and, true_and, and_true, List.length_cons, List.length_nil, Nat.reduceAdd, i_seq, i_rng1, i_rng2, o_expr, o_retn, o_pass, o_retown, o_frz, o_appC, e_neg, e_kon, e_lset, e_chain, e_sumL, sz, w_tup, w_lst, w_str, ex_tup, set_nil, set_cons, ty_str, ty_lst, ty_tup, ty_bool, o_asgTu, Bool.not_true, Bool.not_false, i_own, i_cel, o_rem, if_true, if_false, wipe]
      refine filt (h1 := h') (ns := F) (fun n => decide (n ≠ k)) (by simp) (by show _ ≤ 16777216; omega) (by simp only [o_cons, o_nil, o_ite, o_asg, o_ret, o_own, o_cel, o_app, o_setC, e_var, e_peek, e_lit, e_bin, e_cmp, e_not, e_and, e_or, e_isk, e_ix, p_no, p_at, e_slice, e_rev, e_tup, e_lst, e_call, e_blt, e_isi, e_sset, e_sumL, e_mth, e_mk, es_cons, es_nil, s_ok, s_bind, s_of, List.map_cons, List.map_nil, List.cons_append, List.nil_append, List.replicate, Nat.reduceSub, List.getElem?_cons_zero, List.getElem?_cons_succ, List.set_cons_zero, List.set_cons_succ, ex_iteo, ex_iteno, ex_some, ex_sl, ex_own, ex_map, ex_bl, ex_int, ex_str, ex_lst, if_tt, if_ff, if_dec, if_not, rd_non, rd_bl, rdd_int, rdd_str, rd_tup, rd_lst, rd_scr, b_add, b_sub, b_mul, b_fdiv, b_mod, b_pow, b_cat, b_catL, b_catT, c_lt, c_gt, c_le, c_ge, c_eq, c_ne, c_eqs, c_nes, c_eqb, c_neb, t_bl, l_str, l_lst, l_tup, l_scr, m_min, m_max, m_tup, m_lst, m_intb, m_inti, i_lst, i_tup, i_str, i_scr, at0, at1, at2, ne_eq, Int.reduceEq, Int.reduceNe, not_false_eq_true, decide_true, decide_false, Int.reduceAbs, Int.reduceLE, Int.reduceLT, Int.reduceToNat, Int.reduceAdd, Nat.reduceLT, Nat.reduceLeDiff, Nat.reducePow, Bool.and_self, Bool.true_and, true_and, and_true, List.length_cons, List.length_nil, Nat.reduceAdd, i_seq, i_rng1, i_rng2, o_expr, o_retn, o_pass, o_retown, o_frz, o_appC, e_neg, e_kon, e_lset, e_chain, e_sumL, sz, w_tup, w_lst, w_str, ex_tup, set_nil, set_cons, ty_str, ty_lst, ty_tup, ty_bool, o_asgTu, Bool.not_true, Bool.not_false, i_own, i_cel, o_rem, if_true, if_false]) trivial ?_ ?_
      · intro n hn
        simp only [o_cons, o_nil, o_ite, o_asg, o_ret, o_own, o_cel, o_app, o_setC, e_var, e_peek, e_lit, e_bin, e_cmp, e_not, e_and, e_or, e_isk, e_ix, p_no, p_at, e_slice, e_rev, e_tup, e_lst, e_call, e_blt, e_isi, e_sset, e_sumL, e_mth, e_mk, es_cons, es_nil, s_ok, s_bind, s_of, List.map_cons, List.map_nil, List.cons_append, List.nil_append, List.replicate, Nat.reduceSub, List.getElem?_cons_zero, List.getElem?_cons_succ, List.set_cons_zero, List.set_cons_succ, ex_iteo, ex_iteno, ex_some, ex_sl, ex_own, ex_map, ex_bl, ex_int, ex_str, ex_lst, if_tt, if_ff, if_dec, if_not, rd_non, rd_bl, rdd_int, rdd_str, rd_tup, rd_lst, rd_scr, b_add, b_sub, b_mul, b_fdiv, b_mod, b_pow, b_cat, b_catL, b_catT, c_lt, c_gt, c_le, c_ge, c_eq, c_ne, c_eqs, c_nes, c_eqb, c_neb, t_bl, l_str, l_lst, l_tup, l_scr, m_min, m_max, m_tup, m_lst, m_intb, m_inti, i_lst, i_tup, i_str, i_scr, at0, at1, at2, ne_eq, Int.reduceEq, Int.reduceNe, not_false_eq_true, decide_true, decide_false, Int.reduceAbs, Int.reduceLE, Int.reduceLT, Int.reduceToNat, Int.reduceAdd, Nat.reduceLT, Nat.reduceLeDiff, Nat.reducePow, Bool.and_self, Bool.true_and, true_and, and_true, List.length_cons, List.length_nil, Nat.reduceAdd, i_seq, i_rng1, i_rng2, o_expr, o_retn, o_pass, o_retown, o_frz, o_appC, e_neg, e_kon, e_lset, e_chain, e_sumL, sz, w_tup, w_lst, w_str, ex_tup, set_nil, set_cons, ty_str, ty_lst, ty_tup, ty_bool, o_asgTu, Bool.not_true, Bool.not_false, i_own, i_cel, o_rem, if_true, if_false, wipe]
      · simp only [o_cons, o_nil, o_ite, o_asg, o_ret, o_own, o_cel, o_app, o_setC, e_var, e_peek, e_lit, e_bin, e_cmp, e_not, e_and, e_or, e_isk, e_ix, p_no, p_at, e_slice, e_rev, e_tup, e_lst, e_call, e_blt, e_isi, e_sset, e_sumL, e_mth, e_mk, es_cons, es_nil, s_ok, s_bind, s_of, List.map_cons, List.map_nil, List.cons_append, List.nil_append, List.replicate, Nat.reduceSub, List.getElem?_cons_zero, List.getElem?_cons_succ, List.set_cons_zero, List.set_cons_succ, ex_iteo, ex_iteno, ex_some, ex_sl, ex_own, ex_map, ex_bl, ex_int, ex_str, ex_lst, if_tt, if_ff, if_dec, if_not, rd_non, rd_bl, rdd_int, rdd_str, rd_tup, rd_lst, rd_scr, b_add, b_sub, b_mul, b_fdiv, b_mod, b_pow, b_cat, b_catL, b_catT, c_lt, c_gt, c_le, c_ge, c_eq, c_ne, c_eqs, c_nes, c_eqb, c_neb, t_bl, l_str, l_lst, l_tup, l_scr, m_min, m_max, m_tup, m_lst, m_intb, m_inti, i_lst, i_tup, i_str, i_scr, at0, at1, at2, ne_eq, Int.reduceEq, Int.reduceNe, not_false_eq_true, decide_true, decide_false, Int.reduceAbs, Int.reduceLE, Int.reduceLT, Int.reduceToNat, Int.reduceAdd, Nat.reduceLT, Nat.reduceLeDiff, Nat.reducePow, Bool.and_self, Bool.true_and, true_and, and_true, List.length_cons, List.length_nil, Nat.reduceAdd, i_seq, i_rng1, i_rng2, o_expr, o_retn, o_pass, o_retown, o_frz, o_appC, e_neg, e_kon, e_lset, e_chain, e_sumL, sz, w_tup, w_lst, w_str, ex_tup, set_nil, set_cons, ty_str, ty_lst, ty_tup, ty_bool, o_asgTu, Bool.not_true, Bool.not_false, i_own, i_cel, o_rem, if_true, if_false]
        refine barred_sat e (del F k) d M r 0 h' (by omega) hr _ ?_
        exact ⟨rfl, rfl⟩
    · simp only [o_cons, o_nil, o_ite, o_asg, o_ret, o_own, o_cel, o_app, o_setC, e_var, e_peek, e_lit, e_bin, e_cmp, e_not, e_and, e_or, e_isk, e_ix, p_no, p_at, e_slice, e_rev, e_tup, e_lst, e_call, e_blt, e_isi, e_sset, e_sumL, e_mth, e_mk, es_cons, es_nil, s_ok, s_bind, s_of, List.map_cons, List.map_nil, List.cons_append, List.nil_append, List.replicate, Nat.reduceSub, List.getElem?_cons_zero, List.getElem?_cons_succ, List.set_cons_zero, List.set_cons_succ, ex_iteo, ex_iteno, ex_some, ex_sl, ex_own, ex_map, ex_bl, ex_int, ex_str, ex_lst, if_tt, if_ff, if_dec, if_not, rd_non, rd_bl, rdd_int, rdd_str, rd_tup, rd_lst, rd_scr, b_add, b_sub, b_mul, b_fdiv, b_mod, b_pow, b_cat, b_catL, b_catT, c_lt, c_gt, c_le, c_ge, c_eq, c_ne, c_eqs, c_nes, c_eqb, c_neb, t_bl, l_str, l_lst, l_tup, l_scr, m_min, m_max, m_tup, m_lst, m_intb, m_inti, i_lst, i_tup, i_str, i_scr, at0, at1, at2, ne_eq, Int.reduceEq, Int.reduceNe, not_false_eq_true, decide_true, decide_false, Int.reduceAbs, Int.reduceLE, Int.reduceLT, Int.reduceToNat, Int.reduceAdd, Nat.reduceLT, Nat.reduceLeDiff, Nat.reducePow, Bool.and_self, Bool.true_and, true_and, and_true, List.length_cons, List.length_nil, Nat.reduceAdd, i_seq, i_rng1, i_rng2, o_expr, o_retn, o_pass, o_retown, o_frz, o_appC, e_neg, e_kon, e_lset, e_chain, e_sumL, sz, w_tup, w_lst, w_str, ex_tup, set_nil, set_cons, ty_str, ty_lst, ty_tup, ty_bool, o_asgTu, Bool.not_true, Bool.not_false, i_own, i_cel, o_rem, if_true, if_false]
      rw [same_nil]
      simp only [o_cons, o_nil, o_ite, o_asg, o_ret, o_own, o_cel, o_app, o_setC, e_var, e_peek, e_lit, e_bin, e_cmp, e_not, e_and, e_or, e_isk, e_ix, p_no, p_at, e_slice, e_rev, e_tup, e_lst, e_call, e_blt, e_isi, e_sset, e_sumL, e_mth, e_mk, es_cons, es_nil, s_ok, s_bind, s_of, List.map_cons, List.map_nil, List.cons_append, List.nil_append, List.replicate, Nat.reduceSub, List.getElem?_cons_zero, List.getElem?_cons_succ, List.set_cons_zero, List.set_cons_succ, ex_iteo, ex_iteno, ex_some, ex_sl, ex_own, ex_map, ex_bl, ex_int, ex_str, ex_lst, if_tt, if_ff, if_dec, if_not, rd_non, rd_bl, rdd_int, rdd_str, rd_tup, rd_lst, rd_scr, b_add, b_sub, b_mul, b_fdiv, b_mod, b_pow, b_cat, b_catL, b_catT, c_lt, c_gt, c_le, c_ge, c_eq, c_ne, c_eqs, c_nes, c_eqb, c_neb, t_bl, l_str, l_lst, l_tup, l_scr, m_min, m_max, m_tup, m_lst, m_intb, m_inti, i_lst, i_tup, i_str, i_scr, at0, at1, at2, ne_eq, Int.reduceEq, Int.reduceNe, not_false_eq_true, decide_true, decide_false, Int.reduceAbs, Int.reduceLE, Int.reduceLT, Int.reduceToNat, Int.reduceAdd, Nat.reduceLT, Nat.reduceLeDiff, Nat.reducePow, Bool.and_self, Bool.true_and, true_and, and_true, List.length_cons, List.length_nil, Nat.reduceAdd, i_seq, i_rng1, i_rng2, o_expr, o_retn, o_pass, o_retown, o_frz, o_appC, e_neg, e_kon, e_lset, e_chain, e_sumL, sz, w_tup, w_lst, w_str, ex_tup, set_nil, set_cons, ty_str, ty_lst, ty_tup, ty_bool, o_asgTu, Bool.not_true, Bool.not_false, i_own, i_cel, o_rem, if_true, if_false]
      cases hf : F.filter (fun n => Bn d r (del F n)) with
      | nil =>
        rw [if_pos rfl]
        rw [inv_end _ I hf]
        exact q
      | cons n s =>
        obtain ⟨mF, I2⟩ := inv_step (Bn d r) (fun a b => Bn_mono hr a b) I hf
        rw [if_neg (by simp)]
        rw [List.map_cons]
        simp only [o_cons, o_nil, o_ite, o_asg, o_ret, o_own, o_cel, o_app, o_setC, e_var, e_peek, e_lit, e_bin, e_cmp, e_not, e_and, e_or, e_isk, e_ix, p_no, p_at, e_slice, e_rev, e_tup, e_lst, e_call, e_blt, e_isi, e_sset, e_sumL, e_mth, e_mk, es_cons, es_nil, s_ok, s_bind, s_of, List.map_cons, List.map_nil, List.cons_append, List.nil_append, List.replicate, Nat.reduceSub, List.getElem?_cons_zero, List.getElem?_cons_succ, List.set_cons_zero, List.set_cons_succ, ex_iteo, ex_iteno, ex_some, ex_sl, ex_own, ex_map, ex_bl, ex_int, ex_str, ex_lst, if_tt, if_ff, if_dec, if_not, rd_non, rd_bl, rdd_int, rdd_str, rd_tup, rd_lst, rd_scr, b_add, b_sub, b_mul, b_fdiv, b_mod, b_pow, b_cat, b_catL, b_catT, c_lt, c_gt, c_le, c_ge, c_eq, c_ne, c_eqs, c_nes, c_eqb, c_neb, t_bl, l_str, l_lst, l_tup, l_scr, m_min, m_max, m_tup, m_lst, m_intb, m_inti, i_lst, i_tup, i_str, i_scr, at0, at1, at2, ne_eq, Int.reduceEq, Int.reduceNe, not_false_eq_true, decide_true, decide_false, Int.reduceAbs, Int.reduceLE, Int.reduceLT, Int.reduceToNat, Int.reduceAdd, Nat.reduceLT, Nat.reduceLeDiff, Nat.reducePow, Bool.and_self, Bool.true_and, true_and, and_true, List.length_cons, List.length_nil, Nat.reduceAdd, i_seq, i_rng1, i_rng2, o_expr, o_retn, o_pass, o_retown, o_frz, o_appC, e_neg, e_kon, e_lset, e_chain, e_sumL, sz, w_tup, w_lst, w_str, ex_tup, set_nil, set_cons, ty_str, ty_lst, ty_tup, ty_bool, o_asgTu, Bool.not_true, Bool.not_false, i_own, i_cel, o_rem, if_true, if_false]
        refine ⟨F, ints_map F, mF, _, _, _, _, _, I2, rfl⟩
  · rintro σ h' ⟨rfl, F, s3, s4, s5, s6, I, rfl⟩
    rw [rngL_n] at I
    simp only [o_cons, o_nil, o_ite, o_asg, o_ret, o_own, o_cel, o_app, o_setC, e_var, e_peek, e_lit, e_bin, e_cmp, e_not, e_and, e_or, e_isk, e_ix, p_no, p_at, e_slice, e_rev, e_tup, e_lst, e_call, e_blt, e_isi, e_sset, e_sumL, e_mth, e_mk, es_cons, es_nil, s_ok, s_bind, s_of, List.map_cons, List.map_nil, List.cons_append, List.nil_append, List.replicate, Nat.reduceSub, List.getElem?_cons_zero, List.getElem?_cons_succ, List.set_cons_zero, List.set_cons_succ, ex_iteo, ex_iteno, ex_some, ex_sl, ex_own, ex_map, ex_bl, ex_int, ex_str, ex_lst, if_tt, if_ff, if_dec, if_not, rd_non, rd_bl, rdd_int, rdd_str, rd_tup, rd_lst, rd_scr, b_add, b_sub, b_mul, b_fdiv, b_mod, b_pow, b_cat, b_catL, b_catT, c_lt, c_gt, c_le, c_ge, c_eq, c_ne, c_eqs, c_nes, c_eqb, c_neb, t_bl, l_str, l_lst, l_tup, l_scr, m_min, m_max, m_tup, m_lst, m_intb, m_inti, i_lst, i_tup, i_str, i_scr, at0, at1, at2, ne_eq, Int.reduceEq, Int.reduceNe, not_false_eq_true, decide_true, decide_false, Int.reduceAbs, Int.reduceLE, Int.reduceLT, Int.reduceToNat, Int.reduceAdd, Nat.reduceLT, Nat.reduceLeDiff, Nat.reducePow, Bool.and_self, Bool.true_and, true_and, and_true, List.length_cons, List.length_nil, Nat.reduceAdd, i_seq, i_rng1, i_rng2, o_expr, o_retn, o_pass, o_retown, o_frz, o_appC, e_neg, e_kon, e_lset, e_chain, e_sumL, sz, w_tup, w_lst, w_str, ex_tup, set_nil, set_cons, ty_str, ty_lst, ty_tup, ty_bool, o_asgTu, Bool.not_true, Bool.not_false, i_own, i_cel, o_rem, if_true, if_false]
    rw [Int.toNat_natCast] at I
    rw [inv_full _ I]
    exact q
omit e in
theorem Gr.cell {h h' : Heap} {b : Nat} {xs : List D} (g : Gr h h') (eb : h[b]? = some (.lst xs)) : h'[b]? = some (.lst xs) :=
  (g.2 b (by rw [List.getElem?_eq_some_iff] at eb; exact eb.1)).trans eb
theorem trim_sat {d N : Nat} {r : D} {ns : List Int} {h : Heap} (hN : d + 5 ≤ N) (h4 : d ≤ 4) (hr : Ru d r) (hl : ns.length ≤ 1296) (P : D → Heap → Prop) (q : ∀ b h', h'[b]? = some (.lst ((tr (Bn d r) ns ns).map D.int)) → h.length ≤ b → Gr h h' → P (.cell b) h') : sat (callN E N 221 [r, .lst (ns.map D.int)] h) P := by
  obtain ⟨M, rfl⟩ : ∃ M, N = M + 1 := ⟨N - 1, by omega⟩
  refine call_sat e.trim rfl ?_
  unfold fd_trimmed_2
  simp only [o_cons, o_nil, o_ite, o_asg, o_ret, o_own, o_cel, o_app, o_setC, e_var, e_peek, e_lit, e_bin, e_cmp, e_not, e_and, e_or, e_isk, e_ix, p_no, p_at, e_slice, e_rev, e_tup, e_lst, e_call, e_blt, e_isi, e_sset, e_sumL, e_mth, e_mk, es_cons, es_nil, s_ok, s_bind, s_of, List.map_cons, List.map_nil, List.cons_append, List.nil_append, List.replicate, Nat.reduceSub, List.getElem?_cons_zero, List.getElem?_cons_succ, List.set_cons_zero, List.set_cons_succ, ex_iteo, ex_iteno, ex_some, ex_sl, ex_own, ex_map, ex_bl, ex_int, ex_str, ex_lst, if_tt, if_ff, if_dec, if_not, rd_non, rd_bl, rdd_int, rdd_str, rd_tup, rd_lst, rd_scr, b_add, b_sub, b_mul, b_fdiv, b_mod, b_pow, b_cat, b_catL, b_catT, c_lt, c_gt, c_le, c_ge, c_eq, c_ne, c_eqs, c_nes, c_eqb, c_neb, t_bl, l_str, l_lst, l_tup, l_scr, m_min, m_max, m_tup, m_lst, m_intb, m_inti, i_lst, i_tup, i_str, i_scr, at0, at1, at2, ne_eq, Int.reduceEq, Int.reduceNe, not_false_eq_true, decide_true, decide_false, Int.reduceAbs, Int.reduceLE, Int.reduceLT, Int.reduceToNat, Int.reduceAdd, Nat.reduceLT, Nat.reduceLeDiff, Nat.reducePow, Bool.and_self, Bool.true_and, true_and, and_true, List.length_cons, List.length_nil, Nat.reduceAdd, i_seq, i_rng1, i_rng2, o_expr, o_retn, o_pass, o_retown, o_frz, o_appC, e_neg, e_kon, e_lset, e_chain, e_sumL, sz, w_tup, w_lst, w_str, ex_tup, set_nil, set_cons, ty_str, ty_lst, ty_tup, ty_bool, o_asgTu, Bool.not_true, Bool.not_false, i_own, i_cel, o_rem, if_true, if_false]
  refine o_for ?_
  simp only [o_nil, o_ite, o_asg, o_ret, o_own, o_cel, o_app, o_setC, e_var, e_peek, e_lit, e_bin, e_cmp, e_not, e_and, e_or, e_isk, e_ix, p_no, p_at, e_slice, e_rev, e_tup, e_lst, e_call, e_blt, e_isi, e_sset, e_sumL, e_mth, e_mk, es_cons, es_nil, s_ok, s_bind, s_of, List.map_cons, List.map_nil, List.cons_append, List.nil_append, List.replicate, Nat.reduceSub, List.getElem?_cons_zero, List.getElem?_cons_succ, List.set_cons_zero, List.set_cons_succ, ex_iteo, ex_iteno, ex_some, ex_sl, ex_own, ex_map, ex_bl, ex_int, ex_str, ex_lst, if_tt, if_ff, if_dec, if_not, rd_non, rd_bl, rdd_int, rdd_str, rd_tup, rd_lst, rd_scr, b_add, b_sub, b_mul, b_fdiv, b_mod, b_pow, b_cat, b_catL, b_catT, c_lt, c_gt, c_le, c_ge, c_eq, c_ne, c_eqs, c_nes, c_eqb, c_neb, t_bl, l_str, l_lst, l_tup, l_scr, m_min, m_max, m_tup, m_lst, m_intb, m_inti, i_lst, i_tup, i_str, i_scr, at0, at1, at2, ne_eq, Int.reduceEq, Int.reduceNe, not_false_eq_true, decide_true, decide_false, Int.reduceAbs, Int.reduceLE, Int.reduceLT, Int.reduceToNat, Int.reduceAdd, Nat.reduceLT, Nat.reduceLeDiff, Nat.reducePow, Bool.and_self, Bool.true_and, true_and, and_true, List.length_cons, List.length_nil, Nat.reduceAdd, i_seq, i_rng1, i_rng2, o_expr, o_retn, o_pass, o_retown, o_frz, o_appC, e_neg, e_kon, e_lset, e_chain, e_sumL, sz, w_tup, w_lst, w_str, ex_tup, set_nil, set_cons, ty_str, ty_lst, ty_tup, ty_bool, o_asgTu, Bool.not_true, Bool.not_false, i_own, i_cel, o_rem, if_true, if_false]
  refine ⟨fun j σ h' => Gr h h' ∧ ∃ F b s3 s4 s5, σ = [.v r, .v (.lst (ns.map D.int)), .v (.cell b), s3, s4, s5] ∧ h'[b]? = some (.lst (F.map D.int)) ∧ h.length ≤ b ∧ F.length ≤ ns.length ∧ tr (Bn d r) F (ns.drop j) = tr (Bn d r) ns ns,
    ⟨Gr.app, ns, _, _, _, _, rfl, get_app, Nat.le_refl _, Nat.le_refl _, rfl⟩, ?_, ?_⟩
  · rintro j x σ h' ex ⟨g, F, b, s3, s4, s5, rfl, eb, lb, lF, et⟩
    rw [List.getElem?_map] at ex
    obtain ⟨n, hn, rfl⟩ := Option.map_eq_some_iff.mp ex
    have dj : ns.drop j = n :: ns.drop (j + 1) := by
      obtain ⟨lj, ej⟩ := List.getElem?_eq_some_iff.mp hn
      rw [List.drop_eq_getElem_cons lj, ej]
    rw [dj] at et
    refine ⟨_, rfl, ?_⟩
    rw [o_cons]; simp only [o_nil, o_ite, o_asg, o_ret, o_own, o_cel, o_app, o_setC, e_var, e_peek, e_lit, e_bin, e_cmp, e_not, e_and, e_or, e_isk, e_ix, p_no, p_at, e_slice, e_rev, e_tup, e_lst, e_call, e_blt, e_isi, e_sset, e_sumL, e_mth, e_mk, es_cons, es_nil, s_ok, s_bind, s_of, List.map_cons, List.map_nil, List.cons_append, List.nil_append, List.replicate, Nat.reduceSub, List.getElem?_cons_zero, List.getElem?_cons_succ, List.set_cons_zero, List.set_cons_succ, ex_iteo, ex_iteno, ex_some, ex_sl, ex_own, ex_map, ex_bl, ex_int, ex_str, ex_lst, if_tt, if_ff, if_dec, if_not, rd_non, rd_bl, rdd_int, rdd_str, rd_tup, rd_lst, rd_scr, b_add, b_sub, b_mul, b_fdiv, b_mod, b_pow, b_cat, b_catL, b_catT, c_lt, c_gt, c_le, c_ge, c_eq, c_ne, c_eqs, c_nes, c_eqb, c_neb, t_bl, l_str, l_lst, l_tup, l_scr, m_min, m_max, m_tup, m_lst, m_intb, m_inti, i_lst, i_tup, i_str, i_scr, at0, at1, at2, ne_eq, Int.reduceEq, Int.reduceNe, not_false_eq_true, decide_true, decide_false, Int.reduceAbs, Int.reduceLE, Int.reduceLT, Int.reduceToNat, Int.reduceAdd, Nat.reduceLT, Nat.reduceLeDiff, Nat.reducePow, Bool.and_self, Bool.true_and, true_and, and_true, List.length_cons, List.length_nil, Nat.reduceAdd, i_seq, i_rng1, i_rng2, o_expr, o_retn, o_pass, o_retown, o_frz, o_appC, e_neg, e_kon, e_lset, e_chain, e_sumL, sz, w_tup, w_lst, w_str, ex_tup, set_nil, set_cons, ty_str, ty_lst, ty_tup, ty_bool, o_asgTu, Bool.not_true, Bool.not_false, i_own, i_cel, o_rem, if_true, if_false]
    refine filt (h1 := h') (ns := F) (fun k => decide (k ≠ n)) (by simp) (by show _ ≤ 16777216; omega) ?_ ⟨b, rfl, eb⟩ ?_ ?_
    · simp only [o_cons, o_nil, o_ite, o_asg, o_ret, o_own, o_cel, o_app, o_setC, e_var, e_peek, e_lit, e_bin, e_cmp, e_not, e_and, e_or, e_isk, e_ix, p_no, p_at, e_slice, e_rev, e_tup, e_lst, e_call, e_blt, e_isi, e_sset, e_sumL, e_mth, e_mk, es_cons, es_nil, s_ok, s_bind, s_of, List.map_cons, List.map_nil, List.cons_append, List.nil_append, List.replicate, Nat.reduceSub, List.getElem?_cons_zero, List.getElem?_cons_succ, List.set_cons_zero, List.set_cons_succ, ex_iteo, ex_iteno, ex_some, ex_sl, ex_own, ex_map, ex_bl, ex_int, ex_str, ex_lst, if_tt, if_ff, if_dec, if_not, rd_non, rd_bl, rdd_int, rdd_str, rd_tup, rd_lst, rd_scr, b_add, b_sub, b_mul, b_fdiv, b_mod, b_pow, b_cat, b_catL, b_catT, c_lt, c_gt, c_le, c_ge, c_eq, c_ne, c_eqs, c_nes, c_eqb, c_neb, t_bl, l_str, l_lst, l_tup, l_scr, m_min, m_max, m_tup, m_lst, m_intb, m_inti, i_lst, i_tup, i_str, i_scr, at0, at1, at2, ne_eq, Int.reduceEq, Int.reduceNe, not_false_eq_true, decide_true, decide_false, Int.reduceAbs, Int.reduceLE, Int.reduceLT, Int.reduceToNat, Int.reduceAdd, Nat.reduceLT, Nat.reduceLeDiff, Nat.reducePow, Bool.and_self, Bool.true_and, true_and, and_true, List.length_cons, List.length_nil, Nat.reduceAdd, i_seq, i_rng1, i_rng2, o_expr, o_retn, o_pass, o_retown, o_frz, o_appC, e_neg, e_kon, e_lset, e_chain, e_sumL, sz, w_tup, w_lst, w_str, ex_tup, set_nil, set_cons, ty_str, ty_lst, ty_tup, ty_bool, o_asgTu, Bool.not_true, Bool.not_false, i_own, i_cel, o_rem, if_true, if_false]
      exact ⟨_, rfl, _, eb, rfl⟩
    · intro k hk
      simp only [o_cons, o_nil, o_ite, o_asg, o_ret, o_own, o_cel, o_app, o_setC, e_var, e_peek, e_lit, e_bin, e_cmp, e_not, e_and, e_or, e_isk, e_ix, p_no, p_at, e_slice, e_rev, e_tup, e_lst, e_call, e_blt, e_isi, e_sset, e_sumL, e_mth, e_mk, es_cons, es_nil, s_ok, s_bind, s_of, List.map_cons, List.map_nil, List.cons_append, List.nil_append, List.replicate, Nat.reduceSub, List.getElem?_cons_zero, List.getElem?_cons_succ, List.set_cons_zero, List.set_cons_succ, ex_iteo, ex_iteno, ex_some, ex_sl, ex_own, ex_map, ex_bl, ex_int, ex_str, ex_lst, if_tt, if_ff, if_dec, if_not, rd_non, rd_bl, rdd_int, rdd_str, rd_tup, rd_lst, rd_scr, b_add, b_sub, b_mul, b_fdiv, b_mod, b_pow, b_cat, b_catL, b_catT, c_lt, c_gt, c_le, c_ge, c_eq, c_ne, c_eqs, c_nes, c_eqb, c_neb, t_bl, l_str, l_lst, l_tup, l_scr, m_min, m_max, m_tup, m_lst, m_intb, m_inti, i_lst, i_tup, i_str, i_scr, at0, at1, at2, ne_eq, Int.reduceEq, Int.reduceNe, not_false_eq_true, decide_true, decide_false, Int.reduceAbs, Int.reduceLE, Int.reduceLT, Int.reduceToNat, Int.reduceAdd, Nat.reduceLT, Nat.reduceLeDiff, Nat.reducePow, Bool.and_self, Bool.true_and, true_and, and_true, List.length_cons, List.length_nil, Nat.reduceAdd, i_seq, i_rng1, i_rng2, o_expr, o_retn, o_pass, o_retown, o_frz, o_appC, e_neg, e_kon, e_lset, e_chain, e_sumL, sz, w_tup, w_lst, w_str, ex_tup, set_nil, set_cons, ty_str, ty_lst, ty_tup, ty_bool, o_asgTu, Bool.not_true, Bool.not_false, i_own, i_cel, o_rem, if_true, if_false, wipe]
    · simp only [o_cons, o_nil, o_ite, o_asg, o_ret, o_own, o_cel, o_app, o_setC, e_var, e_peek, e_lit, e_bin, e_cmp, e_not, e_and, e_or, e_isk, e_ix, p_no, p_at, e_slice, e_rev, e_tup, e_lst, e_call, e_blt, e_isi, e_sset, e_sumL, e_mth, e_mk, es_cons, es_nil, s_ok, s_bind, s_of, List.map_cons, List.map_nil, List.cons_append, List.nil_append, List.replicate, Nat.reduceSub, List.getElem?_cons_zero, List.getElem?_cons_succ, List.set_cons_zero, List.set_cons_succ, ex_iteo, ex_iteno, ex_some, ex_sl, ex_own, ex_map, ex_bl, ex_int, ex_str, ex_lst, if_tt, if_ff, if_dec, if_not, rd_non, rd_bl, rdd_int, rdd_str, rd_tup, rd_lst, rd_scr, b_add, b_sub, b_mul, b_fdiv, b_mod, b_pow, b_cat, b_catL, b_catT, c_lt, c_gt, c_le, c_ge, c_eq, c_ne, c_eqs, c_nes, c_eqb, c_neb, t_bl, l_str, l_lst, l_tup, l_scr, m_min, m_max, m_tup, m_lst, m_intb, m_inti, i_lst, i_tup, i_str, i_scr, at0, at1, at2, ne_eq, Int.reduceEq, Int.reduceNe, not_false_eq_true, decide_true, decide_false, Int.reduceAbs, Int.reduceLE, Int.reduceLT, Int.reduceToNat, Int.reduceAdd, Nat.reduceLT, Nat.reduceLeDiff, Nat.reducePow, Bool.and_self, Bool.true_and, true_and, and_true, List.length_cons, List.length_nil, Nat.reduceAdd, i_seq, i_rng1, i_rng2, o_expr, o_retn, o_pass, o_retown, o_frz, o_appC, e_neg, e_kon, e_lset, e_chain, e_sumL, sz, w_tup, w_lst, w_str, ex_tup, set_nil, set_cons, ty_str, ty_lst, ty_tup, ty_bool, o_asgTu, Bool.not_true, Bool.not_false, i_own, i_cel, o_rem, if_true, if_false]
      have en : (h' ++ [Cell.lst ((del F n).map D.int)])[List.length h']? = some (.lst ((del F n).map D.int)) := get_app
      refine bars_sat e (ns := del F n) (by omega) h4 hr (fun h'' g2 => rd_cell (Gr.cell g2 en)) _ fun h2 g2 => ?_
      simp only [o_cons, o_nil, o_ite, o_asg, o_ret, o_own, o_cel, o_app, o_setC, e_var, e_peek, e_lit, e_bin, e_cmp, e_not, e_and, e_or, e_isk, e_ix, p_no, p_at, e_slice, e_rev, e_tup, e_lst, e_call, e_blt, e_isi, e_sset, e_sumL, e_mth, e_mk, es_cons, es_nil, s_ok, s_bind, s_of, List.map_cons, List.map_nil, List.cons_append, List.nil_append, List.replicate, Nat.reduceSub, List.getElem?_cons_zero, List.getElem?_cons_succ, List.set_cons_zero, List.set_cons_succ, ex_iteo, ex_iteno, ex_some, ex_sl, ex_own, ex_map, ex_bl, ex_int, ex_str, ex_lst, if_tt, if_ff, if_dec, if_not, rd_non, rd_bl, rdd_int, rdd_str, rd_tup, rd_lst, rd_scr, b_add, b_sub, b_mul, b_fdiv, b_mod, b_pow, b_cat, b_catL, b_catT, c_lt, c_gt, c_le, c_ge, c_eq, c_ne, c_eqs, c_nes, c_eqb, c_neb, t_bl, l_str, l_lst, l_tup, l_scr, m_min, m_max, m_tup, m_lst, m_intb, m_inti, i_lst, i_tup, i_str, i_scr, at0, at1, at2, ne_eq, Int.reduceEq, Int.reduceNe, not_false_eq_true, decide_true, decide_false, Int.reduceAbs, Int.reduceLE, Int.reduceLT, Int.reduceToNat, Int.reduceAdd, Nat.reduceLT, Nat.reduceLeDiff, Nat.reducePow, Bool.and_self, Bool.true_and, true_and, and_true, List.length_cons, List.length_nil, Nat.reduceAdd, i_seq, i_rng1, i_rng2, o_expr, o_retn, o_pass, o_retown, o_frz, o_appC, e_neg, e_kon, e_lset, e_chain, e_sumL, sz, w_tup, w_lst, w_str, ex_tup, set_nil, set_cons, ty_str, ty_lst, ty_tup, ty_bool, o_asgTu, Bool.not_true, Bool.not_false, i_own, i_cel, o_rem, if_true, if_false]
      have lD : (del F n).length ≤ F.length := List.length_filter_le _ _
      have lh := g.1
      by_cases c : Bn d r (del F n) = true
      · rw [if_pos c]
        have et : tr (Bn d r) (del F n) (ns.drop (j + 1)) = tr (Bn d r) ns ns := by
          rw [← et]
          exact (if_pos c).symm
        exact ⟨g.trans (Gr.app.trans g2), del F n, _, _, _, _, rfl, Gr.cell g2 en, by omega, by omega, et⟩
      · rw [if_neg c]
        have et : tr (Bn d r) F (ns.drop (j + 1)) = tr (Bn d r) ns ns := by
          rw [← et]
          exact (if_neg c).symm
        exact ⟨g.trans (Gr.app.trans g2), F, _, _, _, _, rfl, Gr.cell g2 (Gr.cell Gr.app eb), lb, lF, et⟩
  · rintro σ h' ⟨g, F, b, s3, s4, s5, rfl, eb, lb, lF, et⟩
    rw [List.length_map, List.drop_length] at et
    have et : F = tr (Bn d r) ns ns := et
    rw [et] at eb
    simp only [o_cons, o_nil, o_ite, o_asg, o_ret, o_own, o_cel, o_app, o_setC, e_var, e_peek, e_lit, e_bin, e_cmp, e_not, e_and, e_or, e_isk, e_ix, p_no, p_at, e_slice, e_rev, e_tup, e_lst, e_call, e_blt, e_isi, e_sset, e_sumL, e_mth, e_mk, es_cons, es_nil, s_ok, s_bind, s_of, List.map_cons, List.map_nil, List.cons_append, List.nil_append, List.replicate, Nat.reduceSub, List.getElem?_cons_zero, List.getElem?_cons_succ, List.set_cons_zero, List.set_cons_succ, ex_iteo, ex_iteno, ex_some, ex_sl, ex_own, ex_map, ex_bl, ex_int, ex_str, ex_lst, if_tt, if_ff, if_dec, if_not, rd_non, rd_bl, rdd_int, rdd_str, rd_tup, rd_lst, rd_scr, b_add, b_sub, b_mul, b_fdiv, b_mod, b_pow, b_cat, b_catL, b_catT, c_lt, c_gt, c_le, c_ge, c_eq, c_ne, c_eqs, c_nes, c_eqb, c_neb, t_bl, l_str, l_lst, l_tup, l_scr, m_min, m_max, m_tup, m_lst, m_intb, m_inti, i_lst, i_tup, i_str, i_scr, at0, at1, at2, ne_eq, Int.reduceEq, Int.reduceNe, not_false_eq_true, decide_true, decide_false, Int.reduceAbs, Int.reduceLE, Int.reduceLT, Int.reduceToNat, Int.reduceAdd, Nat.reduceLT, Nat.reduceLeDiff, Nat.reducePow, Bool.and_self, Bool.true_and, true_and, and_true, List.length_cons, List.length_nil, Nat.reduceAdd, i_seq, i_rng1, i_rng2, o_expr, o_retn, o_pass, o_retown, o_frz, o_appC, e_neg, e_kon, e_lset, e_chain, e_sumL, sz, w_tup, w_lst, w_str, ex_tup, set_nil, set_cons, ty_str, ty_lst, ty_tup, ty_bool, o_asgTu, Bool.not_true, Bool.not_false, i_own, i_cel, o_rem, if_true, if_false]
    exact q b h' eb lb g
omit e in
theorem tr_len {B : List Int → Bool} : ∀ (r F : List Int), (tr B F r).length ≤ F.length
  | [], F => Nat.le_refl _
  | n :: r, F => by
    show (if B (del F n) = true then tr B (del F n) r else tr B F r).length ≤ F.length
    split
    · exact Nat.le_trans (tr_len r _) (List.length_filter_le _ _)
    · exact tr_len r F
theorem law_sat {ns : List Int} (hl : ns.length ≤ 63) : sat (callN E 20 222 [.scr ns] []) fun d _ => d = .bl true := by
  refine call_sat e.law rfl ?_
  unfold fd_law_15
  simp only [o_cons, o_nil, o_ite, o_asg, o_ret, o_own, o_cel, o_app, o_setC, e_var, e_peek, e_lit, e_bin, e_cmp, e_not, e_and, e_or, e_isk, e_ix, p_no, p_at, e_slice, e_rev, e_tup, e_lst, e_call, e_blt, e_isi, e_sset, e_sumL, e_mth, e_mk, es_cons, es_nil, s_ok, s_bind, s_of, List.map_cons, List.map_nil, List.cons_append, List.nil_append, List.replicate, Nat.reduceSub, List.getElem?_cons_zero, List.getElem?_cons_succ, List.set_cons_zero, List.set_cons_succ, ex_iteo, ex_iteno, ex_some, ex_sl, ex_own, ex_map, ex_bl, ex_int, ex_str, ex_lst, if_tt, if_ff, if_dec, if_not, rd_non, rd_bl, rdd_int, rdd_str, rd_tup, rd_lst, rd_scr, b_add, b_sub, b_mul, b_fdiv, b_mod, b_pow, b_cat, b_catL, b_catT, c_lt, c_gt, c_le, c_ge, c_eq, c_ne, c_eqs, c_nes, c_eqb, c_neb, t_bl, l_str, l_lst, l_tup, l_scr, m_min, m_max, m_tup, m_lst, m_intb, m_inti, i_lst, i_tup, i_str, i_scr, at0, at1, at2, ne_eq, Int.reduceEq, Int.reduceNe, not_false_eq_true, decide_true, decide_false, Int.reduceAbs, Int.reduceLE, Int.reduceLT, Int.reduceToNat, Int.reduceAdd, Nat.reduceLT, Nat.reduceLeDiff, Nat.reducePow, Bool.and_self, Bool.true_and, true_and, and_true, List.length_cons, List.length_nil, Nat.reduceAdd, i_seq, i_rng1, i_rng2, o_expr, o_retn, o_pass, o_retown, o_frz, o_appC, e_neg, e_kon, e_lset, e_chain, e_sumL, sz, w_tup, w_lst, w_str, ex_tup, set_nil, set_cons, ty_str, ty_lst, ty_tup, ty_bool, o_asgTu, Bool.not_true, Bool.not_false, i_own, i_cel, o_rem, if_true, if_false]
  have st0 : Dst 0 ns 0 ([] ++ [Cell.lst [.scr ns, .int 0, .int 0]]) := ⟨hl, 0, 0, rfl, by omega, by omega⟩
  refine take_sat e.cell e.take st0 (by omega) (by omega) (by omega) _ fun k h1 k0 k24 st1 x1 => ?_
  simp only [o_cons, o_nil, o_ite, o_asg, o_ret, o_own, o_cel, o_app, o_setC, e_var, e_peek, e_lit, e_bin, e_cmp, e_not, e_and, e_or, e_isk, e_ix, p_no, p_at, e_slice, e_rev, e_tup, e_lst, e_call, e_blt, e_isi, e_sset, e_sumL, e_mth, e_mk, es_cons, es_nil, s_ok, s_bind, s_of, List.map_cons, List.map_nil, List.cons_append, List.nil_append, List.replicate, Nat.reduceSub, List.getElem?_cons_zero, List.getElem?_cons_succ, List.set_cons_zero, List.set_cons_succ, ex_iteo, ex_iteno, ex_some, ex_sl, ex_own, ex_map, ex_bl, ex_int, ex_str, ex_lst, if_tt, if_ff, if_dec, if_not, rd_non, rd_bl, rdd_int, rdd_str, rd_tup, rd_lst, rd_scr, b_add, b_sub, b_mul, b_fdiv, b_mod, b_pow, b_cat, b_catL, b_catT, c_lt, c_gt, c_le, c_ge, c_eq, c_ne, c_eqs, c_nes, c_eqb, c_neb, t_bl, l_str, l_lst, l_tup, l_scr, m_min, m_max, m_tup, m_lst, m_intb, m_inti, i_lst, i_tup, i_str, i_scr, at0, at1, at2, ne_eq, Int.reduceEq, Int.reduceNe, not_false_eq_true, decide_true, decide_false, Int.reduceAbs, Int.reduceLE, Int.reduceLT, Int.reduceToNat, Int.reduceAdd, Nat.reduceLT, Nat.reduceLeDiff, Nat.reducePow, Bool.and_self, Bool.true_and, true_and, and_true, List.length_cons, List.length_nil, Nat.reduceAdd, i_seq, i_rng1, i_rng2, o_expr, o_retn, o_pass, o_retown, o_frz, o_appC, e_neg, e_kon, e_lset, e_chain, e_sumL, sz, w_tup, w_lst, w_str, ex_tup, set_nil, set_cons, ty_str, ty_lst, ty_tup, ty_bool, o_asgTu, Bool.not_true, Bool.not_false, i_own, i_cel, o_rem, if_true, if_false]
  refine take_sat e.cell e.take st1 (by omega) (by omega) (by omega) _ fun k2 h2 k20 k5 st2 x2 => ?_
  simp only [o_cons, o_nil, o_ite, o_asg, o_ret, o_own, o_cel, o_app, o_setC, e_var, e_peek, e_lit, e_bin, e_cmp, e_not, e_and, e_or, e_isk, e_ix, p_no, p_at, e_slice, e_rev, e_tup, e_lst, e_call, e_blt, e_isi, e_sset, e_sumL, e_mth, e_mk, es_cons, es_nil, s_ok, s_bind, s_of, List.map_cons, List.map_nil, List.cons_append, List.nil_append, List.replicate, Nat.reduceSub, List.getElem?_cons_zero, List.getElem?_cons_succ, List.set_cons_zero, List.set_cons_succ, ex_iteo, ex_iteno, ex_some, ex_sl, ex_own, ex_map, ex_bl, ex_int, ex_str, ex_lst, if_tt, if_ff, if_dec, if_not, rd_non, rd_bl, rdd_int, rdd_str, rd_tup, rd_lst, rd_scr, b_add, b_sub, b_mul, b_fdiv, b_mod, b_pow, b_cat, b_catL, b_catT, c_lt, c_gt, c_le, c_ge, c_eq, c_ne, c_eqs, c_nes, c_eqb, c_neb, t_bl, l_str, l_lst, l_tup, l_scr, m_min, m_max, m_tup, m_lst, m_intb, m_inti, i_lst, i_tup, i_str, i_scr, at0, at1, at2, ne_eq, Int.reduceEq, Int.reduceNe, not_false_eq_true, decide_true, decide_false, Int.reduceAbs, Int.reduceLE, Int.reduceLT, Int.reduceToNat, Int.reduceAdd, Nat.reduceLT, Nat.reduceLeDiff, Nat.reducePow, Bool.and_self, Bool.true_and, true_and, and_true, List.length_cons, List.length_nil, Nat.reduceAdd, i_seq, i_rng1, i_rng2, o_expr, o_retn, o_pass, o_retown, o_frz, o_appC, e_neg, e_kon, e_lset, e_chain, e_sumL, sz, w_tup, w_lst, w_str, ex_tup, set_nil, set_cons, ty_str, ty_lst, ty_tup, ty_bool, o_asgTu, Bool.not_true, Bool.not_false, i_own, i_cel, o_rem, if_true, if_false]
  obtain ⟨d, ed⟩ : ∃ d : Nat, (d : Int) = k2 := ⟨k2.toNat, by omega⟩
  rw [← ed, Int.add_comm 1 (d : Int)]
  have d4 : d ≤ 4 := by omega
  refine rule_sat e.toEn d 19 0 ns (1 + k) _ h2 (by omega) (by omega) (by omega) st2 (by omega) _ fun r h3 hr st3 x3 => ?_
  have st3 := st3.mono (B' := 2000) (by omega)
  refine many_sat e d 19 r h3 (by omega) hr _ ?_
  have l4 := ats_len4 hr d4
  obtain ⟨L, eL⟩ : ∃ L : Nat, (ats d r).length = L := ⟨_, rfl⟩
  rw [eL] at l4 ⊢
  refine o_for ?_
  simp only [o_nil, o_ite, o_asg, o_ret, o_own, o_cel, o_app, o_setC, e_var, e_peek, e_lit, e_bin, e_cmp, e_not, e_and, e_or, e_isk, e_ix, p_no, p_at, e_slice, e_rev, e_tup, e_lst, e_call, e_blt, e_isi, e_sset, e_sumL, e_mth, e_mk, es_cons, es_nil, s_ok, s_bind, s_of, List.map_cons, List.map_nil, List.cons_append, List.nil_append, List.replicate, Nat.reduceSub, List.getElem?_cons_zero, List.getElem?_cons_succ, List.set_cons_zero, List.set_cons_succ, ex_iteo, ex_iteno, ex_some, ex_sl, ex_own, ex_map, ex_bl, ex_int, ex_str, ex_lst, if_tt, if_ff, if_dec, if_not, rd_non, rd_bl, rdd_int, rdd_str, rd_tup, rd_lst, rd_scr, b_add, b_sub, b_mul, b_fdiv, b_mod, b_pow, b_cat, b_catL, b_catT, c_lt, c_gt, c_le, c_ge, c_eq, c_ne, c_eqs, c_nes, c_eqb, c_neb, t_bl, l_str, l_lst, l_tup, l_scr, m_min, m_max, m_tup, m_lst, m_intb, m_inti, i_lst, i_tup, i_str, i_scr, at0, at1, at2, ne_eq, Int.reduceEq, Int.reduceNe, not_false_eq_true, decide_true, decide_false, Int.reduceAbs, Int.reduceLE, Int.reduceLT, Int.reduceToNat, Int.reduceAdd, Nat.reduceLT, Nat.reduceLeDiff, Nat.reducePow, Bool.and_self, Bool.true_and, true_and, and_true, List.length_cons, List.length_nil, Nat.reduceAdd, i_seq, i_rng1, i_rng2, o_expr, o_retn, o_pass, o_retown, o_frz, o_appC, e_neg, e_kon, e_lset, e_chain, e_sumL, sz, w_tup, w_lst, w_str, ex_tup, set_nil, set_cons, ty_str, ty_lst, ty_tup, ty_bool, o_asgTu, Bool.not_true, Bool.not_false, i_own, i_cel, o_rem, if_true, if_false]
  refine ⟨rng_in (by omega) (by omega), fun j σ h => Dst 0 ns (2000 + 2000 * j) h ∧ ∃ s4 s5 s6 s7 s8 s9 s10, σ = [.v (.scr ns), .v (.cell 0), .v r, .v (.int L), s4, s5, s6, s7, s8, s9, s10], ⟨st3.mono (by omega), _, _, _, _, _, _, _, rfl⟩, ?_, fun _ _ _ => trivial⟩
  clear st0 st1 st2 st3 x1 x2 x3
  rintro j x σ h ex ⟨st, s4, s5, s6, s7, s8, s9, s10, rfl⟩
  obtain ⟨rfl, lj⟩ := rngL_at ex
  refine ⟨_, rfl, ?_⟩
  have esh : ∃ m, atI [D.int 2, D.int 4, D.int 3, D.int 1] ((0 + (j : Int)).fmod 4) = some (.int m) := by
    have a := Int.fmod_nonneg_of_pos (0 + (j : Int)) (b := 4) (by decide)
    have b := Int.fmod_lt_of_pos (0 + (j : Int)) (b := 4) (by decide)
    obtain ⟨v, ev, _, mv⟩ := atI_in (xs := [D.int 2, D.int 4, D.int 3, D.int 1]) a b
    simp only [List.mem_cons, List.not_mem_nil, or_false] at mv
    rcases mv with rfl | rfl | rfl | rfl <;> exact ⟨_, ev⟩
  obtain ⟨m, em⟩ := esh
  rw [o_cons]; simp only [o_nil, o_ite, o_asg, o_ret, o_own, o_cel, o_app, o_setC, e_var, e_peek, e_lit, e_bin, e_cmp, e_not, e_and, e_or, e_isk, e_ix, p_no, p_at, e_slice, e_rev, e_tup, e_lst, e_call, e_blt, e_isi, e_sset, e_sumL, e_mth, e_mk, es_cons, es_nil, s_ok, s_bind, s_of, List.map_cons, List.map_nil, List.cons_append, List.nil_append, List.replicate, Nat.reduceSub, List.getElem?_cons_zero, List.getElem?_cons_succ, List.set_cons_zero, List.set_cons_succ, ex_iteo, ex_iteno, ex_some, ex_sl, ex_own, ex_map, ex_bl, ex_int, ex_str, ex_lst, if_tt, if_ff, if_dec, if_not, rd_non, rd_bl, rdd_int, rdd_str, rd_tup, rd_lst, rd_scr, b_add, b_sub, b_mul, b_fdiv, b_mod, b_pow, b_cat, b_catL, b_catT, c_lt, c_gt, c_le, c_ge, c_eq, c_ne, c_eqs, c_nes, c_eqb, c_neb, t_bl, l_str, l_lst, l_tup, l_scr, m_min, m_max, m_tup, m_lst, m_intb, m_inti, i_lst, i_tup, i_str, i_scr, at0, at1, at2, ne_eq, Int.reduceEq, Int.reduceNe, not_false_eq_true, decide_true, decide_false, Int.reduceAbs, Int.reduceLE, Int.reduceLT, Int.reduceToNat, Int.reduceAdd, Nat.reduceLT, Nat.reduceLeDiff, Nat.reducePow, Bool.and_self, Bool.true_and, true_and, and_true, List.length_cons, List.length_nil, Nat.reduceAdd, i_seq, i_rng1, i_rng2, o_expr, o_retn, o_pass, o_retown, o_frz, o_appC, e_neg, e_kon, e_lset, e_chain, e_sumL, sz, w_tup, w_lst, w_str, ex_tup, set_nil, set_cons, ty_str, ty_lst, ty_tup, ty_bool, o_asgTu, Bool.not_true, Bool.not_false, i_own, i_cel, o_rem, if_true, if_false]
  rw [em, ex_some]
  refine o_cut (fun σ h => Dst 0 ns (2000 + 2000 * j + L) h ∧ ∃ (gs : List Int) (s7 s8 s9 s10 : Sl), gs.length ≤ L ∧ gs.Nodup ∧ σ = [.v (.scr ns), .v (.cell 0), .v r, .v (.int L), .v (.int (0 + j)), .v (.int m), .v (.lst (gs.map D.int)), s7, s8, s9, s10]) ?_ ?_
  · simp only [o_nil, o_ite, o_asg, o_ret, o_own, o_cel, o_app, o_setC, e_var, e_peek, e_lit, e_bin, e_cmp, e_not, e_and, e_or, e_isk, e_ix, p_no, p_at, e_slice, e_rev, e_tup, e_lst, e_call, e_blt, e_isi, e_sset, e_sumL, e_mth, e_mk, es_cons, es_nil, s_ok, s_bind, s_of, List.map_cons, List.map_nil, List.cons_append, List.nil_append, List.replicate, Nat.reduceSub, List.getElem?_cons_zero, List.getElem?_cons_succ, List.set_cons_zero, List.set_cons_succ, ex_iteo, ex_iteno, ex_some, ex_sl, ex_own, ex_map, ex_bl, ex_int, ex_str, ex_lst, if_tt, if_ff, if_dec, if_not, rd_non, rd_bl, rdd_int, rdd_str, rd_tup, rd_lst, rd_scr, b_add, b_sub, b_mul, b_fdiv, b_mod, b_pow, b_cat, b_catL, b_catT, c_lt, c_gt, c_le, c_ge, c_eq, c_ne, c_eqs, c_nes, c_eqb, c_neb, t_bl, l_str, l_lst, l_tup, l_scr, m_min, m_max, m_tup, m_lst, m_intb, m_inti, i_lst, i_tup, i_str, i_scr, at0, at1, at2, ne_eq, Int.reduceEq, Int.reduceNe, not_false_eq_true, decide_true, decide_false, Int.reduceAbs, Int.reduceLE, Int.reduceLT, Int.reduceToNat, Int.reduceAdd, Nat.reduceLT, Nat.reduceLeDiff, Nat.reducePow, Bool.and_self, Bool.true_and, true_and, and_true, List.length_cons, List.length_nil, Nat.reduceAdd, i_seq, i_rng1, i_rng2, o_expr, o_retn, o_pass, o_retown, o_frz, o_appC, e_neg, e_kon, e_lset, e_chain, e_sumL, sz, w_tup, w_lst, w_str, ex_tup, set_nil, set_cons, ty_str, ty_lst, ty_tup, ty_bool, o_asgTu, Bool.not_true, Bool.not_false, i_own, i_cel, o_rem, if_true, if_false]
    refine e_compIf ?_
    simp only [o_cons, o_nil, o_ite, o_asg, o_ret, o_own, o_cel, o_app, o_setC, e_var, e_peek, e_lit, e_bin, e_cmp, e_not, e_and, e_or, e_isk, e_ix, p_no, p_at, e_slice, e_rev, e_tup, e_lst, e_call, e_blt, e_isi, e_sset, e_sumL, e_mth, e_mk, es_cons, es_nil, s_ok, s_bind, s_of, List.map_cons, List.map_nil, List.cons_append, List.nil_append, List.replicate, Nat.reduceSub, List.getElem?_cons_zero, List.getElem?_cons_succ, List.set_cons_zero, List.set_cons_succ, ex_iteo, ex_iteno, ex_some, ex_sl, ex_own, ex_map, ex_bl, ex_int, ex_str, ex_lst, if_tt, if_ff, if_dec, if_not, rd_non, rd_bl, rdd_int, rdd_str, rd_tup, rd_lst, rd_scr, b_add, b_sub, b_mul, b_fdiv, b_mod, b_pow, b_cat, b_catL, b_catT, c_lt, c_gt, c_le, c_ge, c_eq, c_ne, c_eqs, c_nes, c_eqb, c_neb, t_bl, l_str, l_lst, l_tup, l_scr, m_min, m_max, m_tup, m_lst, m_intb, m_inti, i_lst, i_tup, i_str, i_scr, at0, at1, at2, ne_eq, Int.reduceEq, Int.reduceNe, not_false_eq_true, decide_true, decide_false, Int.reduceAbs, Int.reduceLE, Int.reduceLT, Int.reduceToNat, Int.reduceAdd, Nat.reduceLT, Nat.reduceLeDiff, Nat.reducePow, Bool.and_self, Bool.true_and, true_and, and_true, List.length_cons, List.length_nil, Nat.reduceAdd, i_seq, i_rng1, i_rng2, o_expr, o_retn, o_pass, o_retown, o_frz, o_appC, e_neg, e_kon, e_lset, e_chain, e_sumL, sz, w_tup, w_lst, w_str, ex_tup, set_nil, set_cons, ty_str, ty_lst, ty_tup, ty_bool, o_asgTu, Bool.not_true, Bool.not_false, i_own, i_cel, o_rem, if_true, if_false]
    refine ⟨rng_in (by omega) (by omega), fun i acc h' => Dst 0 ns (2000 + 2000 * j + i) h' ∧ ∃ gs : List Int, acc = gs.map D.int ∧ gs.Nodup ∧ ∀ g ∈ gs, g < i, ⟨st.mono (by omega), [], rfl, List.nodup_nil, by simp⟩, ?_, ?_⟩
    · rintro i x acc h' ex2 el ⟨st2, gs, rfl, nd, hx⟩
      obtain ⟨rfl, li⟩ := rngL_at ex2
      refine ⟨_, rfl, ?_⟩
      simp only [o_cons, o_nil, o_ite, o_asg, o_ret, o_own, o_cel, o_app, o_setC, e_var, e_peek, e_lit, e_bin, e_cmp, e_not, e_and, e_or, e_isk, e_ix, p_no, p_at, e_slice, e_rev, e_tup, e_lst, e_call, e_blt, e_isi, e_sset, e_sumL, e_mth, e_mk, es_cons, es_nil, s_ok, s_bind, s_of, List.map_cons, List.map_nil, List.cons_append, List.nil_append, List.replicate, Nat.reduceSub, List.getElem?_cons_zero, List.getElem?_cons_succ, List.set_cons_zero, List.set_cons_succ, ex_iteo, ex_iteno, ex_some, ex_sl, ex_own, ex_map, ex_bl, ex_int, ex_str, ex_lst, if_tt, if_ff, if_dec, if_not, rd_non, rd_bl, rdd_int, rdd_str, rd_tup, rd_lst, rd_scr, b_add, b_sub, b_mul, b_fdiv, b_mod, b_pow, b_cat, b_catL, b_catT, c_lt, c_gt, c_le, c_ge, c_eq, c_ne, c_eqs, c_nes, c_eqb, c_neb, t_bl, l_str, l_lst, l_tup, l_scr, m_min, m_max, m_tup, m_lst, m_intb, m_inti, i_lst, i_tup, i_str, i_scr, at0, at1, at2, ne_eq, Int.reduceEq, Int.reduceNe, not_false_eq_true, decide_true, decide_false, Int.reduceAbs, Int.reduceLE, Int.reduceLT, Int.reduceToNat, Int.reduceAdd, Nat.reduceLT, Nat.reduceLeDiff, Nat.reducePow, Bool.and_self, Bool.true_and, true_and, and_true, List.length_cons, List.length_nil, Nat.reduceAdd, i_seq, i_rng1, i_rng2, o_expr, o_retn, o_pass, o_retown, o_frz, o_appC, e_neg, e_kon, e_lset, e_chain, e_sumL, sz, w_tup, w_lst, w_str, ex_tup, set_nil, set_cons, ty_str, ty_lst, ty_tup, ty_bool, o_asgTu, Bool.not_true, Bool.not_false, i_own, i_cel, o_rem, if_true, if_false, Tg.slots, wipe]
      refine take_sat e.cell e.take st2 (by omega) (by omega) (by omega) _ fun k h1 k0 k24 st1 x1 => ?_
      simp only [o_cons, o_nil, o_ite, o_asg, o_ret, o_own, o_cel, o_app, o_setC, e_var, e_peek, e_lit, e_bin, e_cmp, e_not, e_and, e_or, e_isk, e_ix, p_no, p_at, e_slice, e_rev, e_tup, e_lst, e_call, e_blt, e_isi, e_sset, e_sumL, e_mth, e_mk, es_cons, es_nil, s_ok, s_bind, s_of, List.map_cons, List.map_nil, List.cons_append, List.nil_append, List.replicate, Nat.reduceSub, List.getElem?_cons_zero, List.getElem?_cons_succ, List.set_cons_zero, List.set_cons_succ, ex_iteo, ex_iteno, ex_some, ex_sl, ex_own, ex_map, ex_bl, ex_int, ex_str, ex_lst, if_tt, if_ff, if_dec, if_not, rd_non, rd_bl, rdd_int, rdd_str, rd_tup, rd_lst, rd_scr, b_add, b_sub, b_mul, b_fdiv, b_mod, b_pow, b_cat, b_catL, b_catT, c_lt, c_gt, c_le, c_ge, c_eq, c_ne, c_eqs, c_nes, c_eqb, c_neb, t_bl, l_str, l_lst, l_tup, l_scr, m_min, m_max, m_tup, m_lst, m_intb, m_inti, i_lst, i_tup, i_str, i_scr, at0, at1, at2, ne_eq, Int.reduceEq, Int.reduceNe, not_false_eq_true, decide_true, decide_false, Int.reduceAbs, Int.reduceLE, Int.reduceLT, Int.reduceToNat, Int.reduceAdd, Nat.reduceLT, Nat.reduceLeDiff, Nat.reducePow, Bool.and_self, Bool.true_and, true_and, and_true, List.length_cons, List.length_nil, Nat.reduceAdd, i_seq, i_rng1, i_rng2, o_expr, o_retn, o_pass, o_retown, o_frz, o_appC, e_neg, e_kon, e_lset, e_chain, e_sumL, sz, w_tup, w_lst, w_str, ex_tup, set_nil, set_cons, ty_str, ty_lst, ty_tup, ty_bool, o_asgTu, Bool.not_true, Bool.not_false, i_own, i_cel, o_rem, if_true, if_false]
      split
      · refine ⟨st1.mono (by push_cast; omega), gs ++ [(0 : Int) + i], by rw [List.map_append]; rfl, ?_, ?_⟩
        · rw [List.nodup_append]
          refine ⟨nd, by simp, fun a ha b hb => ?_⟩
          rw [List.mem_singleton] at hb
          have := hx a ha
          omega
        · intro g hg
          rcases List.mem_append.mp hg with z | z
          · have := hx g z; push_cast; omega
          · rw [List.mem_singleton] at z; rw [z]; push_cast; omega
      · exact ⟨st1.mono (by push_cast; omega), gs, rfl, nd, fun g hg => by have := hx g hg; push_cast; omega⟩
    rintro fs h' el ⟨st2, gs, rfl, nd, hx⟩
    rw [rngL_n] at el st2
    rw [List.length_map] at el
    refine ⟨by rw [List.length_map]; omega, st2.mono (by omega), gs, _, _, _, _, by omega, nd, rfl⟩
  clear s7 s8 s9 s10 st
  rintro σ h ⟨st, gs, s7, s8, s9, s10, lg, nd, rfl⟩
  refine o_cut (fun σ h => Dst 0 ns (2000 + 2000 * j + L) h ∧ ∃ (gs : List Int) (s7 s8 s9 s10 : Sl), gs.length ≤ L ∧ gs.Nodup ∧ σ = [.v (.scr ns), .v (.cell 0), .v r, .v (.int L), .v (.int (0 + j)), .v (.int m), .v (.lst (gs.map D.int)), s7, s8, s9, s10]) ?_ ?_
  · simp only [o_cons, o_nil, o_ite, o_asg, o_ret, o_own, o_cel, o_app, o_setC, e_var, e_peek, e_lit, e_bin, e_cmp, e_not, e_and, e_or, e_isk, e_ix, p_no, p_at, e_slice, e_rev, e_tup, e_lst, e_call, e_blt, e_isi, e_sset, e_sumL, e_mth, e_mk, es_cons, es_nil, s_ok, s_bind, s_of, List.map_cons, List.map_nil, List.cons_append, List.nil_append, List.replicate, Nat.reduceSub, List.getElem?_cons_zero, List.getElem?_cons_succ, List.set_cons_zero, List.set_cons_succ, ex_iteo, ex_iteno, ex_some, ex_sl, ex_own, ex_map, ex_bl, ex_int, ex_str, ex_lst, if_tt, if_ff, if_dec, if_not, rd_non, rd_bl, rdd_int, rdd_str, rd_tup, rd_lst, rd_scr, b_add, b_sub, b_mul, b_fdiv, b_mod, b_pow, b_cat, b_catL, b_catT, c_lt, c_gt, c_le, c_ge, c_eq, c_ne, c_eqs, c_nes, c_eqb, c_neb, t_bl, l_str, l_lst, l_tup, l_scr, m_min, m_max, m_tup, m_lst, m_intb, m_inti, i_lst, i_tup, i_str, i_scr, at0, at1, at2, ne_eq, Int.reduceEq, Int.reduceNe, not_false_eq_true, decide_true, decide_false, Int.reduceAbs, Int.reduceLE, Int.reduceLT, Int.reduceToNat, Int.reduceAdd, Nat.reduceLT, Nat.reduceLeDiff, Nat.reducePow, Bool.and_self, Bool.true_and, true_and, and_true, List.length_cons, List.length_nil, Nat.reduceAdd, i_seq, i_rng1, i_rng2, o_expr, o_retn, o_pass, o_retown, o_frz, o_appC, e_neg, e_kon, e_lset, e_chain, e_sumL, sz, w_tup, w_lst, w_str, ex_tup, set_nil, set_cons, ty_str, ty_lst, ty_tup, ty_bool, o_asgTu, Bool.not_true, Bool.not_false, i_own, i_cel, o_rem, if_true, if_false]
    split
    · exact ⟨st, [], _, _, _, _, by simp, List.nodup_nil, rfl⟩
    · exact ⟨st, gs, _, _, _, _, lg, nd, rfl⟩
  clear s7 s8 s9 s10 st lg nd gs h
  rintro σ h ⟨st, gs, s7, s8, s9, s10, lg, nd, rfl⟩
  rw [o_cons]; simp only [o_nil, o_ite, o_asg, o_ret, o_own, o_cel, o_app, o_setC, e_var, e_peek, e_lit, e_bin, e_cmp, e_not, e_and, e_or, e_isk, e_ix, p_no, p_at, e_slice, e_rev, e_tup, e_lst, e_call, e_blt, e_isi, e_sset, e_sumL, e_mth, e_mk, es_cons, es_nil, s_ok, s_bind, s_of, List.map_cons, List.map_nil, List.cons_append, List.nil_append, List.replicate, Nat.reduceSub, List.getElem?_cons_zero, List.getElem?_cons_succ, List.set_cons_zero, List.set_cons_succ, ex_iteo, ex_iteno, ex_some, ex_sl, ex_own, ex_map, ex_bl, ex_int, ex_str, ex_lst, if_tt, if_ff, if_dec, if_not, rd_non, rd_bl, rdd_int, rdd_str, rd_tup, rd_lst, rd_scr, b_add, b_sub, b_mul, b_fdiv, b_mod, b_pow, b_cat, b_catL, b_catT, c_lt, c_gt, c_le, c_ge, c_eq, c_ne, c_eqs, c_nes, c_eqb, c_neb, t_bl, l_str, l_lst, l_tup, l_scr, m_min, m_max, m_tup, m_lst, m_intb, m_inti, i_lst, i_tup, i_str, i_scr, at0, at1, at2, ne_eq, Int.reduceEq, Int.reduceNe, not_false_eq_true, decide_true, decide_false, Int.reduceAbs, Int.reduceLE, Int.reduceLT, Int.reduceToNat, Int.reduceAdd, Nat.reduceLT, Nat.reduceLeDiff, Nat.reducePow, Bool.and_self, Bool.true_and, true_and, and_true, List.length_cons, List.length_nil, Nat.reduceAdd, i_seq, i_rng1, i_rng2, o_expr, o_retn, o_pass, o_retown, o_frz, o_appC, e_neg, e_kon, e_lset, e_chain, e_sumL, sz, w_tup, w_lst, w_str, ex_tup, set_nil, set_cons, ty_str, ty_lst, ty_tup, ty_bool, o_asgTu, Bool.not_true, Bool.not_false, i_own, i_cel, o_rem, if_true, if_false]
  rw [o_cons]; simp only [o_nil, o_ite, o_asg, o_ret, o_own, o_cel, o_app, o_setC, e_var, e_peek, e_lit, e_bin, e_cmp, e_not, e_and, e_or, e_isk, e_ix, p_no, p_at, e_slice, e_rev, e_tup, e_lst, e_call, e_blt, e_isi, e_sset, e_sumL, e_mth, e_mk, es_cons, es_nil, s_ok, s_bind, s_of, List.map_cons, List.map_nil, List.cons_append, List.nil_append, List.replicate, Nat.reduceSub, List.getElem?_cons_zero, List.getElem?_cons_succ, List.set_cons_zero, List.set_cons_succ, ex_iteo, ex_iteno, ex_some, ex_sl, ex_own, ex_map, ex_bl, ex_int, ex_str, ex_lst, if_tt, if_ff, if_dec, if_not, rd_non, rd_bl, rdd_int, rdd_str, rd_tup, rd_lst, rd_scr, b_add, b_sub, b_mul, b_fdiv, b_mod, b_pow, b_cat, b_catL, b_catT, c_lt, c_gt, c_le, c_ge, c_eq, c_ne, c_eqs, c_nes, c_eqb, c_neb, t_bl, l_str, l_lst, l_tup, l_scr, m_min, m_max, m_tup, m_lst, m_intb, m_inti, i_lst, i_tup, i_str, i_scr, at0, at1, at2, ne_eq, Int.reduceEq, Int.reduceNe, not_false_eq_true, decide_true, decide_false, Int.reduceAbs, Int.reduceLE, Int.reduceLT, Int.reduceToNat, Int.reduceAdd, Nat.reduceLT, Nat.reduceLeDiff, Nat.reducePow, Bool.and_self, Bool.true_and, true_and, and_true, List.length_cons, List.length_nil, Nat.reduceAdd, i_seq, i_rng1, i_rng2, o_expr, o_retn, o_pass, o_retown, o_frz, o_appC, e_neg, e_kon, e_lset, e_chain, e_sumL, sz, w_tup, w_lst, w_str, ex_tup, set_nil, set_cons, ty_str, ty_lst, ty_tup, ty_bool, o_asgTu, Bool.not_true, Bool.not_false, i_own, i_cel, o_rem, if_true, if_false]
  refine bars_sat e (ns := gs) (by omega) d4 hr (fun h' _ => rfl) _ fun h2 g2 => ?_
  rw [o_cons]; simp only [o_nil, o_ite, o_asg, o_ret, o_own, o_cel, o_app, o_setC, e_var, e_peek, e_lit, e_bin, e_cmp, e_not, e_and, e_or, e_isk, e_ix, p_no, p_at, e_slice, e_rev, e_tup, e_lst, e_call, e_blt, e_isi, e_sset, e_sumL, e_mth, e_mk, es_cons, es_nil, s_ok, s_bind, s_of, List.map_cons, List.map_nil, List.cons_append, List.nil_append, List.replicate, Nat.reduceSub, List.getElem?_cons_zero, List.getElem?_cons_succ, List.set_cons_zero, List.set_cons_succ, ex_iteo, ex_iteno, ex_some, ex_sl, ex_own, ex_map, ex_bl, ex_int, ex_str, ex_lst, if_tt, if_ff, if_dec, if_not, rd_non, rd_bl, rdd_int, rdd_str, rd_tup, rd_lst, rd_scr, b_add, b_sub, b_mul, b_fdiv, b_mod, b_pow, b_cat, b_catL, b_catT, c_lt, c_gt, c_le, c_ge, c_eq, c_ne, c_eqs, c_nes, c_eqb, c_neb, t_bl, l_str, l_lst, l_tup, l_scr, m_min, m_max, m_tup, m_lst, m_intb, m_inti, i_lst, i_tup, i_str, i_scr, at0, at1, at2, ne_eq, Int.reduceEq, Int.reduceNe, not_false_eq_true, decide_true, decide_false, Int.reduceAbs, Int.reduceLE, Int.reduceLT, Int.reduceToNat, Int.reduceAdd, Nat.reduceLT, Nat.reduceLeDiff, Nat.reducePow, Bool.and_self, Bool.true_and, true_and, and_true, List.length_cons, List.length_nil, Nat.reduceAdd, i_seq, i_rng1, i_rng2, o_expr, o_retn, o_pass, o_retown, o_frz, o_appC, e_neg, e_kon, e_lset, e_chain, e_sumL, sz, w_tup, w_lst, w_str, ex_tup, set_nil, set_cons, ty_str, ty_lst, ty_tup, ty_bool, o_asgTu, Bool.not_true, Bool.not_false, i_own, i_cel, o_rem, if_true, if_false]
  refine barred_sat e gs d 19 r 0 h2 (by omega) hr _ ?_
  rw [show (!hld (fun f => !inn gs f) d r 0) = Bn d r gs from rfl]
  simp only [o_nil, o_ite, o_asg, o_ret, o_own, o_cel, o_app, o_setC, e_var, e_peek, e_lit, e_bin, e_cmp, e_not, e_and, e_or, e_isk, e_ix, p_no, p_at, e_slice, e_rev, e_tup, e_lst, e_call, e_blt, e_isi, e_sset, e_sumL, e_mth, e_mk, es_cons, es_nil, s_ok, s_bind, s_of, List.map_cons, List.map_nil, List.cons_append, List.nil_append, List.replicate, Nat.reduceSub, List.getElem?_cons_zero, List.getElem?_cons_succ, List.set_cons_zero, List.set_cons_succ, ex_iteo, ex_iteno, ex_some, ex_sl, ex_own, ex_map, ex_bl, ex_int, ex_str, ex_lst, if_tt, if_ff, if_dec, if_not, rd_non, rd_bl, rdd_int, rdd_str, rd_tup, rd_lst, rd_scr, b_add, b_sub, b_mul, b_fdiv, b_mod, b_pow, b_cat, b_catL, b_catT, c_lt, c_gt, c_le, c_ge, c_eq, c_ne, c_eqs, c_nes, c_eqb, c_neb, t_bl, l_str, l_lst, l_tup, l_scr, m_min, m_max, m_tup, m_lst, m_intb, m_inti, i_lst, i_tup, i_str, i_scr, at0, at1, at2, ne_eq, Int.reduceEq, Int.reduceNe, not_false_eq_true, decide_true, decide_false, Int.reduceAbs, Int.reduceLE, Int.reduceLT, Int.reduceToNat, Int.reduceAdd, Nat.reduceLT, Nat.reduceLeDiff, Nat.reducePow, Bool.and_self, Bool.true_and, true_and, and_true, List.length_cons, List.length_nil, Nat.reduceAdd, i_seq, i_rng1, i_rng2, o_expr, o_retn, o_pass, o_retown, o_frz, o_appC, e_neg, e_kon, e_lset, e_chain, e_sumL, sz, w_tup, w_lst, w_str, ex_tup, set_nil, set_cons, ty_str, ty_lst, ty_tup, ty_bool, o_asgTu, Bool.not_true, Bool.not_false, i_own, i_cel, o_rem, if_true, if_false]
  rw [ne_self (ok_ints gs), beq_self_eq_true]
  simp only [o_nil, o_ite, o_asg, o_ret, o_own, o_cel, o_app, o_setC, e_var, e_peek, e_lit, e_bin, e_cmp, e_not, e_and, e_or, e_isk, e_ix, p_no, p_at, e_slice, e_rev, e_tup, e_lst, e_call, e_blt, e_isi, e_sset, e_sumL, e_mth, e_mk, es_cons, es_nil, s_ok, s_bind, s_of, List.map_cons, List.map_nil, List.cons_append, List.nil_append, List.replicate, Nat.reduceSub, List.getElem?_cons_zero, List.getElem?_cons_succ, List.set_cons_zero, List.set_cons_succ, ex_iteo, ex_iteno, ex_some, ex_sl, ex_own, ex_map, ex_bl, ex_int, ex_str, ex_lst, if_tt, if_ff, if_dec, if_not, rd_non, rd_bl, rdd_int, rdd_str, rd_tup, rd_lst, rd_scr, b_add, b_sub, b_mul, b_fdiv, b_mod, b_pow, b_cat, b_catL, b_catT, c_lt, c_gt, c_le, c_ge, c_eq, c_ne, c_eqs, c_nes, c_eqb, c_neb, t_bl, l_str, l_lst, l_tup, l_scr, m_min, m_max, m_tup, m_lst, m_intb, m_inti, i_lst, i_tup, i_str, i_scr, at0, at1, at2, ne_eq, Int.reduceEq, Int.reduceNe, not_false_eq_true, decide_true, decide_false, Int.reduceAbs, Int.reduceLE, Int.reduceLT, Int.reduceToNat, Int.reduceAdd, Nat.reduceLT, Nat.reduceLeDiff, Nat.reducePow, Bool.and_self, Bool.true_and, true_and, and_true, List.length_cons, List.length_nil, Nat.reduceAdd, i_seq, i_rng1, i_rng2, o_expr, o_retn, o_pass, o_retown, o_frz, o_appC, e_neg, e_kon, e_lset, e_chain, e_sumL, sz, w_tup, w_lst, w_str, ex_tup, set_nil, set_cons, ty_str, ty_lst, ty_tup, ty_bool, o_asgTu, Bool.not_true, Bool.not_false, i_own, i_cel, o_rem, if_true, if_false]
  have st2 := st.gr g2
  rw [o_cons]; simp only [o_nil, o_ite, o_asg, o_ret, o_own, o_cel, o_app, o_setC, e_var, e_peek, e_lit, e_bin, e_cmp, e_not, e_and, e_or, e_isk, e_ix, p_no, p_at, e_slice, e_rev, e_tup, e_lst, e_call, e_blt, e_isi, e_sset, e_sumL, e_mth, e_mk, es_cons, es_nil, s_ok, s_bind, s_of, List.map_cons, List.map_nil, List.cons_append, List.nil_append, List.replicate, Nat.reduceSub, List.getElem?_cons_zero, List.getElem?_cons_succ, List.set_cons_zero, List.set_cons_succ, ex_iteo, ex_iteno, ex_some, ex_sl, ex_own, ex_map, ex_bl, ex_int, ex_str, ex_lst, if_tt, if_ff, if_dec, if_not, rd_non, rd_bl, rdd_int, rdd_str, rd_tup, rd_lst, rd_scr, b_add, b_sub, b_mul, b_fdiv, b_mod, b_pow, b_cat, b_catL, b_catT, c_lt, c_gt, c_le, c_ge, c_eq, c_ne, c_eqs, c_nes, c_eqb, c_neb, t_bl, l_str, l_lst, l_tup, l_scr, m_min, m_max, m_tup, m_lst, m_intb, m_inti, i_lst, i_tup, i_str, i_scr, at0, at1, at2, ne_eq, Int.reduceEq, Int.reduceNe, not_false_eq_true, decide_true, decide_false, Int.reduceAbs, Int.reduceLE, Int.reduceLT, Int.reduceToNat, Int.reduceAdd, Nat.reduceLT, Nat.reduceLeDiff, Nat.reducePow, Bool.and_self, Bool.true_and, true_and, and_true, List.length_cons, List.length_nil, Nat.reduceAdd, i_seq, i_rng1, i_rng2, o_expr, o_retn, o_pass, o_retown, o_frz, o_appC, e_neg, e_kon, e_lset, e_chain, e_sumL, sz, w_tup, w_lst, w_str, ex_tup, set_nil, set_cons, ty_str, ty_lst, ty_tup, ty_bool, o_asgTu, Bool.not_true, Bool.not_false, i_own, i_cel, o_rem, if_true, if_false]
  by_cases c : Bn d r gs = true
  · rw [if_pos c]
    rw [o_cons]; simp only [o_nil, o_ite, o_asg, o_ret, o_own, o_cel, o_app, o_setC, e_var, e_peek, e_lit, e_bin, e_cmp, e_not, e_and, e_or, e_isk, e_ix, p_no, p_at, e_slice, e_rev, e_tup, e_lst, e_call, e_blt, e_isi, e_sset, e_sumL, e_mth, e_mk, es_cons, es_nil, s_ok, s_bind, s_of, List.map_cons, List.map_nil, List.cons_append, List.nil_append, List.replicate, Nat.reduceSub, List.getElem?_cons_zero, List.getElem?_cons_succ, List.set_cons_zero, List.set_cons_succ, ex_iteo, ex_iteno, ex_some, ex_sl, ex_own, ex_map, ex_bl, ex_int, ex_str, ex_lst, if_tt, if_ff, if_dec, if_not, rd_non, rd_bl, rdd_int, rdd_str, rd_tup, rd_lst, rd_scr, b_add, b_sub, b_mul, b_fdiv, b_mod, b_pow, b_cat, b_catL, b_catT, c_lt, c_gt, c_le, c_ge, c_eq, c_ne, c_eqs, c_nes, c_eqb, c_neb, t_bl, l_str, l_lst, l_tup, l_scr, m_min, m_max, m_tup, m_lst, m_intb, m_inti, i_lst, i_tup, i_str, i_scr, at0, at1, at2, ne_eq, Int.reduceEq, Int.reduceNe, not_false_eq_true, decide_true, decide_false, Int.reduceAbs, Int.reduceLE, Int.reduceLT, Int.reduceToNat, Int.reduceAdd, Nat.reduceLT, Nat.reduceLeDiff, Nat.reducePow, Bool.and_self, Bool.true_and, true_and, and_true, List.length_cons, List.length_nil, Nat.reduceAdd, i_seq, i_rng1, i_rng2, o_expr, o_retn, o_pass, o_retown, o_frz, o_appC, e_neg, e_kon, e_lset, e_chain, e_sumL, sz, w_tup, w_lst, w_str, ex_tup, set_nil, set_cons, ty_str, ty_lst, ty_tup, ty_bool, o_asgTu, Bool.not_true, Bool.not_false, i_own, i_cel, o_rem, if_true, if_false]
    refine trim_sat e (ns := gs) (by omega) d4 hr (by omega) _ fun b h3 eb lb g3 => ?_
    rw [o_cons]; simp only [o_nil, o_ite, o_asg, o_ret, o_own, o_cel, o_app, o_setC, e_var, e_peek, e_lit, e_bin, e_cmp, e_not, e_and, e_or, e_isk, e_ix, p_no, p_at, e_slice, e_rev, e_tup, e_lst, e_call, e_blt, e_isi, e_sset, e_sumL, e_mth, e_mk, es_cons, es_nil, s_ok, s_bind, s_of, List.map_cons, List.map_nil, List.cons_append, List.nil_append, List.replicate, Nat.reduceSub, List.getElem?_cons_zero, List.getElem?_cons_succ, List.set_cons_zero, List.set_cons_succ, ex_iteo, ex_iteno, ex_some, ex_sl, ex_own, ex_map, ex_bl, ex_int, ex_str, ex_lst, if_tt, if_ff, if_dec, if_not, rd_non, rd_bl, rdd_int, rdd_str, rd_tup, rd_lst, rd_scr, b_add, b_sub, b_mul, b_fdiv, b_mod, b_pow, b_cat, b_catL, b_catT, c_lt, c_gt, c_le, c_ge, c_eq, c_ne, c_eqs, c_nes, c_eqb, c_neb, t_bl, l_str, l_lst, l_tup, l_scr, m_min, m_max, m_tup, m_lst, m_intb, m_inti, i_lst, i_tup, i_str, i_scr, at0, at1, at2, ne_eq, Int.reduceEq, Int.reduceNe, not_false_eq_true, decide_true, decide_false, Int.reduceAbs, Int.reduceLE, Int.reduceLT, Int.reduceToNat, Int.reduceAdd, Nat.reduceLT, Nat.reduceLeDiff, Nat.reducePow, Bool.and_self, Bool.true_and, true_and, and_true, List.length_cons, List.length_nil, Nat.reduceAdd, i_seq, i_rng1, i_rng2, o_expr, o_retn, o_pass, o_retown, o_frz, o_appC, e_neg, e_kon, e_lset, e_chain, e_sumL, sz, w_tup, w_lst, w_str, ex_tup, set_nil, set_cons, ty_str, ty_lst, ty_tup, ty_bool, o_asgTu, Bool.not_true, Bool.not_false, i_own, i_cel, o_rem, if_true, if_false]
    rw [rd_cell eb]
    simp only [o_nil, o_ite, o_asg, o_ret, o_own, o_cel, o_app, o_setC, e_var, e_peek, e_lit, e_bin, e_cmp, e_not, e_and, e_or, e_isk, e_ix, p_no, p_at, e_slice, e_rev, e_tup, e_lst, e_call, e_blt, e_isi, e_sset, e_sumL, e_mth, e_mk, es_cons, es_nil, s_ok, s_bind, s_of, List.map_cons, List.map_nil, List.cons_append, List.nil_append, List.replicate, Nat.reduceSub, List.getElem?_cons_zero, List.getElem?_cons_succ, List.set_cons_zero, List.set_cons_succ, ex_iteo, ex_iteno, ex_some, ex_sl, ex_own, ex_map, ex_bl, ex_int, ex_str, ex_lst, if_tt, if_ff, if_dec, if_not, rd_non, rd_bl, rdd_int, rdd_str, rd_tup, rd_lst, rd_scr, b_add, b_sub, b_mul, b_fdiv, b_mod, b_pow, b_cat, b_catL, b_catT, c_lt, c_gt, c_le, c_ge, c_eq, c_ne, c_eqs, c_nes, c_eqb, c_neb, t_bl, l_str, l_lst, l_tup, l_scr, m_min, m_max, m_tup, m_lst, m_intb, m_inti, i_lst, i_tup, i_str, i_scr, at0, at1, at2, ne_eq, Int.reduceEq, Int.reduceNe, not_false_eq_true, decide_true, decide_false, Int.reduceAbs, Int.reduceLE, Int.reduceLT, Int.reduceToNat, Int.reduceAdd, Nat.reduceLT, Nat.reduceLeDiff, Nat.reducePow, Bool.and_self, Bool.true_and, true_and, and_true, List.length_cons, List.length_nil, Nat.reduceAdd, i_seq, i_rng1, i_rng2, o_expr, o_retn, o_pass, o_retown, o_frz, o_appC, e_neg, e_kon, e_lset, e_chain, e_sumL, sz, w_tup, w_lst, w_str, ex_tup, set_nil, set_cons, ty_str, ty_lst, ty_tup, ty_bool, o_asgTu, Bool.not_true, Bool.not_false, i_own, i_cel, o_rem, if_true, if_false]
    refine ltrim_sat e (by omega) hr (by omega) nd _ ?_
    rw [rd_cell eb]
    simp only [o_nil, o_ite, o_asg, o_ret, o_own, o_cel, o_app, o_setC, e_var, e_peek, e_lit, e_bin, e_cmp, e_not, e_and, e_or, e_isk, e_ix, p_no, p_at, e_slice, e_rev, e_tup, e_lst, e_call, e_blt, e_isi, e_sset, e_sumL, e_mth, e_mk, es_cons, es_nil, s_ok, s_bind, s_of, List.map_cons, List.map_nil, List.cons_append, List.nil_append, List.replicate, Nat.reduceSub, List.getElem?_cons_zero, List.getElem?_cons_succ, List.set_cons_zero, List.set_cons_succ, ex_iteo, ex_iteno, ex_some, ex_sl, ex_own, ex_map, ex_bl, ex_int, ex_str, ex_lst, if_tt, if_ff, if_dec, if_not, rd_non, rd_bl, rdd_int, rdd_str, rd_tup, rd_lst, rd_scr, b_add, b_sub, b_mul, b_fdiv, b_mod, b_pow, b_cat, b_catL, b_catT, c_lt, c_gt, c_le, c_ge, c_eq, c_ne, c_eqs, c_nes, c_eqb, c_neb, t_bl, l_str, l_lst, l_tup, l_scr, m_min, m_max, m_tup, m_lst, m_intb, m_inti, i_lst, i_tup, i_str, i_scr, at0, at1, at2, ne_eq, Int.reduceEq, Int.reduceNe, not_false_eq_true, decide_true, decide_false, Int.reduceAbs, Int.reduceLE, Int.reduceLT, Int.reduceToNat, Int.reduceAdd, Nat.reduceLT, Nat.reduceLeDiff, Nat.reducePow, Bool.and_self, Bool.true_and, true_and, and_true, List.length_cons, List.length_nil, Nat.reduceAdd, i_seq, i_rng1, i_rng2, o_expr, o_retn, o_pass, o_retown, o_frz, o_appC, e_neg, e_kon, e_lset, e_chain, e_sumL, sz, w_tup, w_lst, w_str, ex_tup, set_nil, set_cons, ty_str, ty_lst, ty_tup, ty_bool, o_asgTu, Bool.not_true, Bool.not_false, i_own, i_cel, o_rem, if_true, if_false]
    rw [ne_self (ok_ints _), ex_some]
    simp only [o_nil, o_ite, o_asg, o_ret, o_own, o_cel, o_app, o_setC, e_var, e_peek, e_lit, e_bin, e_cmp, e_not, e_and, e_or, e_isk, e_ix, p_no, p_at, e_slice, e_rev, e_tup, e_lst, e_call, e_blt, e_isi, e_sset, e_sumL, e_mth, e_mk, es_cons, es_nil, s_ok, s_bind, s_of, List.map_cons, List.map_nil, List.cons_append, List.nil_append, List.replicate, Nat.reduceSub, List.getElem?_cons_zero, List.getElem?_cons_succ, List.set_cons_zero, List.set_cons_succ, ex_iteo, ex_iteno, ex_some, ex_sl, ex_own, ex_map, ex_bl, ex_int, ex_str, ex_lst, if_tt, if_ff, if_dec, if_not, rd_non, rd_bl, rdd_int, rdd_str, rd_tup, rd_lst, rd_scr, b_add, b_sub, b_mul, b_fdiv, b_mod, b_pow, b_cat, b_catL, b_catT, c_lt, c_gt, c_le, c_ge, c_eq, c_ne, c_eqs, c_nes, c_eqb, c_neb, t_bl, l_str, l_lst, l_tup, l_scr, m_min, m_max, m_tup, m_lst, m_intb, m_inti, i_lst, i_tup, i_str, i_scr, at0, at1, at2, ne_eq, Int.reduceEq, Int.reduceNe, not_false_eq_true, decide_true, decide_false, Int.reduceAbs, Int.reduceLE, Int.reduceLT, Int.reduceToNat, Int.reduceAdd, Nat.reduceLT, Nat.reduceLeDiff, Nat.reducePow, Bool.and_self, Bool.true_and, true_and, and_true, List.length_cons, List.length_nil, Nat.reduceAdd, i_seq, i_rng1, i_rng2, o_expr, o_retn, o_pass, o_retown, o_frz, o_appC, e_neg, e_kon, e_lset, e_chain, e_sumL, sz, w_tup, w_lst, w_str, ex_tup, set_nil, set_cons, ty_str, ty_lst, ty_tup, ty_bool, o_asgTu, Bool.not_true, Bool.not_false, i_own, i_cel, o_rem, if_true, if_false]
    rw [ne_self (ok_ints _), ex_some]
    simp only [o_nil, o_ite, o_asg, o_ret, o_own, o_cel, o_app, o_setC, e_var, e_peek, e_lit, e_bin, e_cmp, e_not, e_and, e_or, e_isk, e_ix, p_no, p_at, e_slice, e_rev, e_tup, e_lst, e_call, e_blt, e_isi, e_sset, e_sumL, e_mth, e_mk, es_cons, es_nil, s_ok, s_bind, s_of, List.map_cons, List.map_nil, List.cons_append, List.nil_append, List.replicate, Nat.reduceSub, List.getElem?_cons_zero, List.getElem?_cons_succ, List.set_cons_zero, List.set_cons_succ, ex_iteo, ex_iteno, ex_some, ex_sl, ex_own, ex_map, ex_bl, ex_int, ex_str, ex_lst, if_tt, if_ff, if_dec, if_not, rd_non, rd_bl, rdd_int, rdd_str, rd_tup, rd_lst, rd_scr, b_add, b_sub, b_mul, b_fdiv, b_mod, b_pow, b_cat, b_catL, b_catT, c_lt, c_gt, c_le, c_ge, c_eq, c_ne, c_eqs, c_nes, c_eqb, c_neb, t_bl, l_str, l_lst, l_tup, l_scr, m_min, m_max, m_tup, m_lst, m_intb, m_inti, i_lst, i_tup, i_str, i_scr, at0, at1, at2, ne_eq, Int.reduceEq, Int.reduceNe, not_false_eq_true, decide_true, decide_false, Int.reduceAbs, Int.reduceLE, Int.reduceLT, Int.reduceToNat, Int.reduceAdd, Nat.reduceLT, Nat.reduceLeDiff, Nat.reducePow, Bool.and_self, Bool.true_and, true_and, and_true, List.length_cons, List.length_nil, Nat.reduceAdd, i_seq, i_rng1, i_rng2, o_expr, o_retn, o_pass, o_retown, o_frz, o_appC, e_neg, e_kon, e_lset, e_chain, e_sumL, sz, w_tup, w_lst, w_str, ex_tup, set_nil, set_cons, ty_str, ty_lst, ty_tup, ty_bool, o_asgTu, Bool.not_true, Bool.not_false, i_own, i_cel, o_rem, if_true, if_false]
    rw [o_cons]; simp only [o_nil, o_ite, o_asg, o_ret, o_own, o_cel, o_app, o_setC, e_var, e_peek, e_lit, e_bin, e_cmp, e_not, e_and, e_or, e_isk, e_ix, p_no, p_at, e_slice, e_rev, e_tup, e_lst, e_call, e_blt, e_isi, e_sset, e_sumL, e_mth, e_mk, es_cons, es_nil, s_ok, s_bind, s_of, List.map_cons, List.map_nil, List.cons_append, List.nil_append, List.replicate, Nat.reduceSub, List.getElem?_cons_zero, List.getElem?_cons_succ, List.set_cons_zero, List.set_cons_succ, ex_iteo, ex_iteno, ex_some, ex_sl, ex_own, ex_map, ex_bl, ex_int, ex_str, ex_lst, if_tt, if_ff, if_dec, if_not, rd_non, rd_bl, rdd_int, rdd_str, rd_tup, rd_lst, rd_scr, b_add, b_sub, b_mul, b_fdiv, b_mod, b_pow, b_cat, b_catL, b_catT, c_lt, c_gt, c_le, c_ge, c_eq, c_ne, c_eqs, c_nes, c_eqb, c_neb, t_bl, l_str, l_lst, l_tup, l_scr, m_min, m_max, m_tup, m_lst, m_intb, m_inti, i_lst, i_tup, i_str, i_scr, at0, at1, at2, ne_eq, Int.reduceEq, Int.reduceNe, not_false_eq_true, decide_true, decide_false, Int.reduceAbs, Int.reduceLE, Int.reduceLT, Int.reduceToNat, Int.reduceAdd, Nat.reduceLT, Nat.reduceLeDiff, Nat.reducePow, Bool.and_self, Bool.true_and, true_and, and_true, List.length_cons, List.length_nil, Nat.reduceAdd, i_seq, i_rng1, i_rng2, o_expr, o_retn, o_pass, o_retown, o_frz, o_appC, e_neg, e_kon, e_lset, e_chain, e_sumL, sz, w_tup, w_lst, w_str, ex_tup, set_nil, set_cons, ty_str, ty_lst, ty_tup, ty_bool, o_asgTu, Bool.not_true, Bool.not_false, i_own, i_cel, o_rem, if_true, if_false]
    have b0 : b ≠ 0 := by
      obtain ⟨_, s1, s2, ea, _⟩ := st2
      rw [List.getElem?_eq_some_iff] at ea
      have := ea.1
      omega
    have lT : (tr (Bn d r) gs gs).length ≤ 1296 := Nat.le_trans (tr_len gs gs) (by omega)
    refine ⟨b, _, rfl, eb, _, eb, by rw [List.length_map]; omega, ?_⟩
    have st3 := Dst.set (c := .lst ((tr (Bn d r) gs gs).map D.int ++ [.int 0])) (st2.gr g3) b0
    simp only [o_cons, o_nil, o_ite, o_asg, o_ret, o_own, o_cel, o_app, o_setC, e_var, e_peek, e_lit, e_bin, e_cmp, e_not, e_and, e_or, e_isk, e_ix, p_no, p_at, e_slice, e_rev, e_tup, e_lst, e_call, e_blt, e_isi, e_sset, e_sumL, e_mth, e_mk, es_cons, es_nil, s_ok, s_bind, s_of, List.map_cons, List.map_nil, List.cons_append, List.nil_append, List.replicate, Nat.reduceSub, List.getElem?_cons_zero, List.getElem?_cons_succ, List.set_cons_zero, List.set_cons_succ, ex_iteo, ex_iteno, ex_some, ex_sl, ex_own, ex_map, ex_bl, ex_int, ex_str, ex_lst, if_tt, if_ff, if_dec, if_not, rd_non, rd_bl, rdd_int, rdd_str, rd_tup, rd_lst, rd_scr, b_add, b_sub, b_mul, b_fdiv, b_mod, b_pow, b_cat, b_catL, b_catT, c_lt, c_gt, c_le, c_ge, c_eq, c_ne, c_eqs, c_nes, c_eqb, c_neb, t_bl, l_str, l_lst, l_tup, l_scr, m_min, m_max, m_tup, m_lst, m_intb, m_inti, i_lst, i_tup, i_str, i_scr, at0, at1, at2, ne_eq, Int.reduceEq, Int.reduceNe, not_false_eq_true, decide_true, decide_false, Int.reduceAbs, Int.reduceLE, Int.reduceLT, Int.reduceToNat, Int.reduceAdd, Nat.reduceLT, Nat.reduceLeDiff, Nat.reducePow, Bool.and_self, Bool.true_and, true_and, and_true, List.length_cons, List.length_nil, Nat.reduceAdd, i_seq, i_rng1, i_rng2, o_expr, o_retn, o_pass, o_retown, o_frz, o_appC, e_neg, e_kon, e_lset, e_chain, e_sumL, sz, w_tup, w_lst, w_str, ex_tup, set_nil, set_cons, ty_str, ty_lst, ty_tup, ty_bool, o_asgTu, Bool.not_true, Bool.not_false, i_own, i_cel, o_rem, if_true, if_false]
    refine trim_sat e (ns := gs) (by omega) d4 hr (by omega) _ fun b2 h4 eb2 lb2 g4 => ?_
    refine ltrim_sat e (by omega) hr (by omega) nd _ ?_
    rw [rd_cell eb2, rd_lst]
    rw [ne_self (ok_ints _), ex_some]
    simp only [o_cons, o_nil, o_ite, o_asg, o_ret, o_own, o_cel, o_app, o_setC, e_var, e_peek, e_lit, e_bin, e_cmp, e_not, e_and, e_or, e_isk, e_ix, p_no, p_at, e_slice, e_rev, e_tup, e_lst, e_call, e_blt, e_isi, e_sset, e_sumL, e_mth, e_mk, es_cons, es_nil, s_ok, s_bind, s_of, List.map_cons, List.map_nil, List.cons_append, List.nil_append, List.replicate, Nat.reduceSub, List.getElem?_cons_zero, List.getElem?_cons_succ, List.set_cons_zero, List.set_cons_succ, ex_iteo, ex_iteno, ex_some, ex_sl, ex_own, ex_map, ex_bl, ex_int, ex_str, ex_lst, if_tt, if_ff, if_dec, if_not, rd_non, rd_bl, rdd_int, rdd_str, rd_tup, rd_lst, rd_scr, b_add, b_sub, b_mul, b_fdiv, b_mod, b_pow, b_cat, b_catL, b_catT, c_lt, c_gt, c_le, c_ge, c_eq, c_ne, c_eqs, c_nes, c_eqb, c_neb, t_bl, l_str, l_lst, l_tup, l_scr, m_min, m_max, m_tup, m_lst, m_intb, m_inti, i_lst, i_tup, i_str, i_scr, at0, at1, at2, ne_eq, Int.reduceEq, Int.reduceNe, not_false_eq_true, decide_true, decide_false, Int.reduceAbs, Int.reduceLE, Int.reduceLT, Int.reduceToNat, Int.reduceAdd, Nat.reduceLT, Nat.reduceLeDiff, Nat.reducePow, Bool.and_self, Bool.true_and, true_and, and_true, List.length_cons, List.length_nil, Nat.reduceAdd, i_seq, i_rng1, i_rng2, o_expr, o_retn, o_pass, o_retown, o_frz, o_appC, e_neg, e_kon, e_lset, e_chain, e_sumL, sz, w_tup, w_lst, w_str, ex_tup, set_nil, set_cons, ty_str, ty_lst, ty_tup, ty_bool, o_asgTu, Bool.not_true, Bool.not_false, i_own, i_cel, o_rem, if_true, if_false]
    exact ⟨(st3.gr g4).mono (by push_cast; omega), _, _, _, _, _, _, _, rfl⟩
  · rw [if_neg c]
    exact ⟨st2.mono (by push_cast; omega), _, _, _, _, _, _, _, rfl⟩
end Lb.K14
end
section
set_option Elab.async false
set_option linter.all false
set_option maxRecDepth 100000
set_option maxHeartbeats 0
namespace Lb.K14
open PySem PySem.Spec PyProof.Rows L2 Lb
abbrev R : PySem.W.OpenRow := PySem.W.OpenLaw.row PySem.Challenge.rw_leavebook_k14_bars_and_what_is_trimmed
abbrev hk : PySem.W.Hook := He.hookD 4 the.fa the.fn
def ob (s : PySem.W.SharedT) : He.AlD := He.obsDG 4 the.fa the.fn (HandSHeadRun.getT s)
theorem ob_eq (s : PySem.W.SharedT) : ob s = hk.obs s.abs := He.obsDG_eq (HandSHeadRun.getT_eq s)
def others : List Str := ["__name__", "atoms_of", "holds_from", "holds", "bars", "trimmed", "_law_cell", "_law_take", "_law_name", "_law_who", "_law_rule", "_law_many", "_law_barred", "_law_trimmed"]
theorem run (w : World) : HandSHeadRun.RunEq R (PySem.W.view R.prog [16]) hk ob 900 others w := by
  intro os
  kernel_rfl
end Lb.K14
open PySem PySem.W PySem.Calls PyProof.Rows
theorem k14_if (good : ∀ ns : List Int, ns.length ≤ 63 → ∃ h', Lb.callN Lb.K14.the.env 20 222 [.scr ns] [] = .ok (.bl true) h') : PySem.Challenge.rw_leavebook_k14_bars_and_what_is_trimmed.Holds := by
  w_on; o_law
  refine HandSHeadRun.head_any (r := OpenLaw.row PySem.Challenge.rw_leavebook_k14_bars_and_what_is_trimmed) (q := view (OpenLaw.row PySem.Challenge.rw_leavebook_k14_bars_and_what_is_trimmed).prog [16]) (H := Lb.K14.hk) (ob := Lb.K14.ob) (M := 900) (loose := Lb.K14.others) (d := HandSHeadRun.topDef (OpenLaw.row PySem.Challenge.rw_leavebook_k14_bars_and_what_is_trimmed).prog 16) (kwd := []) Lb.K14.ob_eq
    (by kernel_rfl) (fun s => by kernel_rfl) Lb.K14.run (by kernel_rfl) (by kernel_rfl) (by kernel_rfl) (by rfl) (by first | assumption | decide +kernel) (by decide +kernel) ⟨rfl, rfl, rfl, rfl, rfl, by decide +kernel⟩ ?hw ?hc
  case hw => w_witness2
  case hc =>
    refine Lb.walk_end (l := PySem.Challenge.rw_leavebook_k14_bars_and_what_is_trimmed) (n := 63) (k := 20) (x := "_law_script") rfl (by decide) (by kernel_rfl) ⟨rfl, by decide, by decide⟩ ?F
    case F =>
      intro w mg fa h Y G hmg0
      obtain ⟨K, KX, c⟩ := Y
      have hmg : mg ("law" : PySem.Str) = some (.ref fa) := by
        have e : (HandSHeadRun.topDef (OpenLaw.row PySem.Challenge.rw_leavebook_k14_bars_and_what_is_trimmed).prog 16).name = ("law" : PySem.Str) := by kernel_rfl
        rw [← e]
        exact hmg0
      obtain ⟨fd, sp, h1, h2, h3⟩ := Lb.law_facts (P := (PySem.Challenge.rw_leavebook_k14_bars_and_what_is_trimmed).prog) (w := w) (L := Lb.K14.the) (n := 20) (f := 222) (p := "_law_script") KX G hmg c Lb.K14.the_ck Lb.K14.the_b (by refine ⟨_, List.mem_of_getElem? (i := 13) rfl, rfl, rfl, rfl, rfl⟩) good
      exact ⟨K, fd, sp, KX, h1, h2, h3⟩
end
section
set_option Elab.async false
set_option linter.all false
set_option maxRecDepth 100000
theorem Lb.K14.en : Lb.K14.En Lb.K14.the.env := ⟨⟨rfl, rfl, rfl, rfl, rfl, rfl, rfl, rfl⟩, rfl, rfl, rfl, rfl, rfl, rfl⟩
set_option maxRecDepth 100000 in
set_option maxHeartbeats 0 in
theorem PySem.Challenge.cw_leavebook_k14_bars_and_what_is_trimmed_holds : PySem.Challenge.rw_leavebook_k14_bars_and_what_is_trimmed.Holds := by
  exact k14_if fun ns hl => by
    obtain ⟨d, h', e, rfl⟩ := (Lb.K14.law_sat Lb.K14.en hl).get
    exact ⟨h', e⟩
end
