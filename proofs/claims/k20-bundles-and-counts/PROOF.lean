import PyProof.Rows.All
import Wide.All
import OpenK.AllK
import Wide.FinOn
import HandS.ForMost
import HandS.ForExc
import HandS.IsInst
import HandS.Deep
import HandS.TupAny
import HandS.TupMul
import HandS.Flow
import HandS.Style
import HandS.Conv
import HandS.SortInts
import KE.KDictKeyed
import HandS.DictTup
import HandS.IntHex
import KE.DataCmp
import KE.DataMinMax
import KE.SortData
import HandS.TryMany
import HandS.WideBits
import HandS.DictComp
import HandS.Strs
import HandS.SetFor
import HandS.CallLocal
import KE.KDictSum
import KE.KDictWalk
import HandS.More
import HandS.TupSets
import KE.KDictDisplayH
import KE.KTupSum
import PySem.Challenge.RW_everypurse_k20_bundles_and_counts
set_option Elab.async false
set_option linter.all false
set_option maxRecDepth 100000
set_option maxHeartbeats 400000
/-! The data layer, ahead of part 1: dicts whose keys are tuples of data at any depth, tracked in the heap: NdO. -/
namespace DL
open PySem PySem.Spec PyProof.Rows L2
/-! ### keys -/
mutual
/-- what a datum is as a key -/
def nkD : PyData → Option NestedKey
  | .none => some .none
  | .bool b => some (.num (if b = true then 1 else 0))
  | .int i => some (.num i)
  | .tuple ds => (nkDs ds).map .tup
  | _ => none
def nkDs : List PyData → Option (List NestedKey)
  | [] => some []
  | d :: ds => (nkD d).bind fun k => (nkDs ds).map (k :: ·)
end
mutual
def plainK : NestedKey → Bool
  | .none => true
  | .num _ => true
  | .text _ => false
  | .tup ks => plainKs ks
def plainKs : List NestedKey → Bool
  | [] => true
  | k :: ks => plainK k && plainKs ks
end
mutual
theorem nkD_plain : ∀ {d : PyData} {k : NestedKey}, nkD d = some k → plainK k = true
  | .none, k, h => by simp only [nkD, Option.some.injEq] at h; subst h; rfl
  | .bool b, k, h => by simp only [nkD, Option.some.injEq] at h; subst h; rfl
  | .int i, k, h => by simp only [nkD, Option.some.injEq] at h; subst h; rfl
  | .str x, k, h => by simp [nkD] at h
  | .list x, k, h => by simp [nkD] at h
  | .dict x, k, h => by simp [nkD] at h
  | .tuple ds, k, h => by
    simp only [nkD] at h
    obtain ⟨ks, h1, rfl⟩ := Option.map_eq_some_iff.mp h
    simp only [plainK]
    exact nkDs_plain h1
theorem nkDs_plain : ∀ {ds : List PyData} {ks : List NestedKey}, nkDs ds = some ks → plainKs ks = true
  | [], ks, h => by simp only [nkDs, Option.some.injEq] at h; subst h; rfl
  | d :: ds, ks, h => by
    simp only [nkDs] at h
    obtain ⟨k, h1, h2⟩ := Option.bind_eq_some_iff.mp h
    obtain ⟨r, h3, rfl⟩ := Option.map_eq_some_iff.mp h2
    simp [plainKs, nkD_plain h1, nkDs_plain h3]
end
mutual
theorem hash_one (w w' : World) : ∀ {k : NestedKey}, plainK k = true → k.hash w = k.hash w'
  | .none, _ => by simp [NestedKey.hash]
  | .num i, _ => by simp [NestedKey.hash]
  | .text x, h => by simp [plainK] at h
  | .tup ks, h => by
    simp only [plainK] at h
    simp only [NestedKey.hash]
    rw [hashes_one w w' h]
theorem hashes_one (w w' : World) : ∀ {ks : List NestedKey}, plainKs ks = true → NestedKey.hashes w ks = NestedKey.hashes w' ks
  | [], _ => by simp [NestedKey.hashes]
  | k :: ks, h => by
    simp only [plainKs, Bool.and_eq_true] at h
    simp only [NestedKey.hashes]
    rw [hash_one w w' h.1, hashes_one w w' h.2]
end
mutual
theorem nested_reads {h : Heap} : ∀ {d : PyData} {u : Value} {as : List Addr} {k : NestedKey}, Reads h u d as → nkD d = some k → NestedIs h k u
  | .none, _, _, k, r, e => by simp only [nkD, Option.some.injEq] at e; subst e; cases r; exact .none
  | .bool b, _, _, k, r, e => by simp only [nkD, Option.some.injEq] at e; subst e; cases r; exact .bool rfl
  | .int i, _, _, k, r, e => by simp only [nkD, Option.some.injEq] at e; subst e; cases r; exact .int _ _
  | .str x, _, _, k, r, e => by simp [nkD] at e
  | .list x, _, _, k, r, e => by simp [nkD] at e
  | .dict x, _, _, k, r, e => by simp [nkD] at e
  | .tuple ds, _, _, k, r, e => by
    simp only [nkD] at e
    obtain ⟨ks, h1, rfl⟩ := Option.map_eq_some_iff.mp e
    cases r with
    | tuple a b c z => exact .tup a b c (nested_readsAll z h1)
theorem nested_readsAll {h : Heap} : ∀ {ds : List PyData} {us : List Value} {as : List Addr} {ks : List NestedKey}, ReadsAll h us ds as → nkDs ds = some ks → NestedAll h ks us
  | [], _, _, ks, r, e => by simp only [nkDs, Option.some.injEq] at e; subst e; cases r; exact .nil
  | d :: ds, _, _, ks, r, e => by
    simp only [nkDs] at e
    obtain ⟨k, h1, h2⟩ := Option.bind_eq_some_iff.mp e
    obtain ⟨m, h3, rfl⟩ := Option.map_eq_some_iff.mp h2
    cases r with
    | cons a b => exact .cons (nested_reads a h1) (nested_readsAll b h3)
end
/-- the tuple at a is the key k -/
def KeyAt (K : PySem.W.Frag) (H : Hp) (k : NestedKey) (a : Addr) : Prop := ∃ d, Dp K H (.ref a) d ∧ nkD d = some k ∧ k.depth ≤ 8
/-- how a dict with such keys is written as a datum: a mark ahead, which is no key of the other dicts -/
def ndD (kvs : List (PyData × PyData)) : PyData := .dict ((.none, .none) :: kvs)
/-! ### the dict's object -/
abbrev NRow := NestedKey × Addr × V
abbrev NRel : List NRow → List (NestedKey × Addr × Value) → Prop := Paired fun p q => p.1 = q.1 ∧ p.2.1 = q.2.1 ∧ RelV p.2.2 q.2.2
def NdOk (a : Addr) (xs : List NRow) (h : Heap) : Prop := xs.length ≤ sizeLine ∧ (a == sysModules) = false ∧ (∀ x ∈ xs, plainK x.1 = true) ∧ ∃ (us : List (NestedKey × Addr × Value)) (w : World), NRel xs us ∧
  ∃ o es ep, h.get? a = some o ∧ o.ExactDict ∧ o.data = .dict es ep ∧ es.toList = us.map (fun u => (⟨u.1.hash w, .ref u.2.1, u.2.2⟩ : DictEntry)) ∧ (us.map (·.1)).Nodup
def NdO (a : Addr) (xs : List NRow) : HO := .ext (NdOk a xs)
theorem NRel.keys : ∀ {xs : List NRow} {us : List (NestedKey × Addr × Value)}, NRel xs us → us.map (·.1) = xs.map (·.1)
  | _, _, .nil => rfl
  | _, _, .cons r t => by rw [List.map_cons, List.map_cons, NRel.keys t, r.1]
theorem NRel.mem : ∀ {xs : List NRow} {us : List (NestedKey × Addr × Value)}, NRel xs us → ∀ u ∈ us, ∃ x ∈ xs, x.1 = u.1 ∧ x.2.1 = u.2.1 ∧ RelV x.2.2 u.2.2
  | _, _, .nil, u, h => by cases h
  | _, _, .cons r t, u, h => by
    rcases List.mem_cons.mp h with rfl | h
    · exact ⟨_, List.mem_cons_self, r⟩
    · obtain ⟨x, hx, q⟩ := NRel.mem t u h
      exact ⟨x, List.mem_cons_of_mem _ hx, q⟩
theorem ndok_obj {P : Program} {w : World} {H : Hp} {h : Heap} {a : Addr} {xs : List NRow} (k : NdOk a xs h) : ObjOk P w H h a (NdO a xs) := by
  refine ⟨k, ?_, fun h1 h2 q e => ?_⟩
  · obtain ⟨_, _, _, us, w', _, o, es, ep, ho, _⟩ := k
    exact ⟨o, ho⟩
  · obtain ⟨z, y, pl, us, w', r, o, es, ep, ho, c⟩ := q
    exact ⟨z, y, pl, us, w', r, o, es, ep, e o ho, c⟩
section
variable {X : Cx} {pins : List (Addr × Obj)} {σ : L2.St} {H : Hp} {s : Shared} {a : Addr} {xs : List NRow}
theorem Inv.ndok (I : Inv X pins σ H s) (e : Rd H a (NdO a xs)) : NdOk a xs s.heap := by
  have := e.ok I.hok
  exact this.1
theorem key_is (I : Inv X pins σ H s) {k : NestedKey} {b : Addr} (hk : KeyAt X.K H k b) : (nestedKind X.prog X.w).is s.heap k b := by
  obtain ⟨d, h1, h2, h3⟩ := hk
  obtain ⟨as, r⟩ := Dp.reads I d (.ref b) (.ref b) h1 rfl
  exact ⟨nested_reads r h2, h3⟩
/-- as the library's dict -/
theorem ndok_keyed (I : Inv X pins σ H s) (e : Rd H a (NdO a xs)) (hk : ∀ x ∈ xs, KeyAt X.K H x.1 x.2.1) : ∃ us, NRel xs us ∧ s.heap.DictOfH (nestedKind X.prog X.w) a us ∧ (a == sysModules) = false ∧ us.length ≤ sizeLine := by
  obtain ⟨z, y, pl, us, w', r, o, es, ep, ho, hx, hd, he, hn⟩ := Inv.ndok I e
  refine ⟨us, r, ⟨o, es, ep, ho, hx, hd, ?_, fun u hu => ?_, hn⟩, y, by rw [← Paired.length r]; exact z⟩
  · rw [he]
    refine List.map_congr_left fun u hu => ?_
    obtain ⟨x, hx', e1, _⟩ := r.mem u hu
    show _ = (⟨u.1.hash X.w, .ref u.2.1, u.2.2⟩ : DictEntry)
    rw [hash_one w' X.w (by rw [← e1]; exact pl x hx')]
  · obtain ⟨x, hx', e1, e2, _⟩ := r.mem u hu
    rw [← e1, ← e2]
    exact key_is I (hk x hx')
end
/-- what the rows hold at a key -/
def atN (xs : List NRow) (k : NestedKey) : Option V := (xs.find? fun x => decide (x.1 = k)).map (·.2.2)
def putN (xs : List NRow) (k : NestedKey) (b : Addr) (v : V) : List NRow := if (atN xs k).isSome = true then xs.map (fun x => if x.1 = k then (x.1, x.2.1, v) else x) else xs ++ [(k, b, v)]
def delN (xs : List NRow) (k : NestedKey) : List NRow := xs.filter fun x => decide (x.1 ≠ k)
theorem NRel.at : ∀ {xs : List NRow} {us : List (NestedKey × Addr × Value)} (k : NestedKey), NRel xs us → (atN xs k = none ∧ atKey us k = none) ∨ ∃ v p, atN xs k = some v ∧ atKey us k = some p ∧ RelV v p.2
  | _, _, k, .nil => .inl ⟨rfl, rfl⟩
  | _, _, k, @Paired.cons _ _ _ p q ps qs r t => by
    by_cases h : p.1 = k
    · exact .inr ⟨p.2.2, q.2, by simp [atN, List.find?_cons, h], by simp [atKey, List.find?_cons, show q.1 = k from r.1.symm.trans h], r.2.2⟩
    · have e1 : atN (p :: ps) k = atN ps k := by simp [atN, List.find?_cons, h]
      have e2 : atKey (q :: qs) k = atKey qs k := by simp [atKey, List.find?_cons, show ¬ q.1 = k from fun z => h (r.1.trans z)]
      rw [e1, e2]
      exact NRel.at k t
theorem NRel.repl {k : NestedKey} {v : V} {u : Value} (rv : RelV v u) : ∀ {xs : List NRow} {us : List (NestedKey × Addr × Value)}, NRel xs us → NRel (xs.map fun x => if x.1 = k then (x.1, x.2.1, v) else x) (us.map (putAt k u))
  | _, _, .nil => .nil
  | _, _, @Paired.cons _ _ _ p q ps qs r t => by
    rw [List.map_cons, List.map_cons]
    refine .cons ?_ (NRel.repl rv t)
    unfold putAt
    by_cases h : p.1 = k
    · rw [if_pos h, if_pos (r.1.symm.trans h)]
      exact ⟨r.1, r.2.1, rv⟩
    · rw [if_neg h, if_neg fun z => h (r.1.trans z)]
      exact r
theorem NRel.put {xs : List NRow} {us : List (NestedKey × Addr × Value)} (r : NRel xs us) (k : NestedKey) {b : Addr} {v : V} {u : Value} (rv : RelV v u) : NRel (putN xs k b v) (storedH us k b u) := by
  unfold putN storedH
  rcases r.at k with ⟨e1, e2⟩ | ⟨v', p, e1, e2, _⟩
  · rw [e1, e2, if_neg (by simp), if_neg (by simp)]
    exact Paired.snoc r ⟨rfl, rfl, rv⟩
  · rw [e1, e2]
    exact r.repl rv
theorem NRel.del {k : NestedKey} : ∀ {xs : List NRow} {us : List (NestedKey × Addr × Value)}, NRel xs us → NRel (delN xs k) (withoutH us k)
  | _, _, .nil => .nil
  | _, _, @Paired.cons _ _ _ p q ps qs r t => by
    have ih := NRel.del (k := k) t
    unfold delN withoutH at ih ⊢
    by_cases h : p.1 = k
    · have h' : q.1 = k := r.1.symm.trans h
      rw [List.filter_cons_of_neg (by simp [h]), List.filter_cons_of_neg (by simp [h'])]
      exact ih
    · have h' : ¬ q.1 = k := fun z => h (r.1.trans z)
      rw [List.filter_cons_of_pos (by simp [h]), List.filter_cons_of_pos (by simp [h'])]
      exact Paired.cons r ih
theorem putN_len (xs : List NRow) (k : NestedKey) (b : Addr) (v : V) : (putN xs k b v).length ≤ xs.length + 1 := by
  unfold putN
  split
  · rw [List.length_map]; omega
  · rw [List.length_append]; exact Nat.le_refl _
section
variable {X : Cx} {pins : List (Addr × Obj)} {σ : L2.St} {H : Hp} {s : Shared} {a b : Addr} {xs : List NRow} {k : NestedKey} {A : Around} {E : Value → Shared → Prop}
theorem nk_room (hu : A.units + 16 < cLine) : (nestedKind X.prog X.w).room A.in1 := by
  show A.in1.units + 8 < cLine
  rw [Around.in1_units]
  omega
theorem n_in {Q : Value → Shared → Prop} (hu : A.units + 16 < cLine) (I : Inv X pins σ H s) (e : Rd H a (NdO a xs)) (hk : ∀ x ∈ xs, KeyAt X.K H x.1 x.2.1) (kb : KeyAt X.K H k b) (h : ∀ s', Inv X pins σ H s' → Q (.bool (atN xs k).isSome) s') : wpAny (model X.prog X.w) A (compareOp .In (.ref b) (.ref a)) Q E s := by
  obtain ⟨us, r, dd, hd, hl⟩ := ndok_keyed I e hk
  refine wpAny_in_heap (nk_room hu) (key_is I kb) hd dd ?_
  have : (atKey us k).isSome = (atN xs k).isSome := by
    rcases r.at k with ⟨e1, e2⟩ | ⟨v, p, e1, e2, _⟩
    · rw [e1, e2]; rfl
    · rw [e1, e2]; rfl
  rw [this]
  exact h _ (I.tok _)
theorem n_notIn {Q : Value → Shared → Prop} (hu : A.units + 16 < cLine) (I : Inv X pins σ H s) (e : Rd H a (NdO a xs)) (hk : ∀ x ∈ xs, KeyAt X.K H x.1 x.2.1) (kb : KeyAt X.K H k b) (h : ∀ s', Inv X pins σ H s' → Q (.bool (!(atN xs k).isSome)) s') : wpAny (model X.prog X.w) A (compareOp .NotIn (.ref b) (.ref a)) Q E s := by
  obtain ⟨us, r, dd, hd, hl⟩ := ndok_keyed I e hk
  refine wpAny_notIn_heap (nk_room hu) (key_is I kb) hd dd ?_
  have : (atKey us k).isSome = (atN xs k).isSome := by
    rcases r.at k with ⟨e1, e2⟩ | ⟨v, p, e1, e2, _⟩
    · rw [e1, e2]; rfl
    · rw [e1, e2]; rfl
  rw [this]
  exact h _ (I.tok _)
theorem n_getItem {Q : Value → Shared → Prop} {v : V} (hu : A.units + 16 < cLine) (I : Inv X pins σ H s) (e : Rd H a (NdO a xs)) (hk : ∀ x ∈ xs, KeyAt X.K H x.1 x.2.1) (kb : KeyAt X.K H k b) (hv : atN xs k = some v) (h : ∀ w' s', Inv X pins σ H s' → RelV v w' → Q w' s') : wpAny (model X.prog X.w) A (getItem (.ref a) (.ref b)) Q E s := by
  obtain ⟨us, r, dd, hd, hl⟩ := ndok_keyed I e hk
  rcases r.at k with ⟨e1, _⟩ | ⟨v', p, e1, e2, rv⟩
  · rw [e1] at hv; cases hv
  · rw [hv] at e1
    cases e1
    exact wpAny_getItem_heap (nk_room hu) (key_is I kb) dd e2 (h _ _ (I.tok _) rv)
theorem n_get {Q : Value → Shared → Prop} {z : V} {u : Value} (hu : A.units + 16 < cLine) (I : Inv X pins σ H s) (e : Rd H a (NdO a xs)) (hk : ∀ x ∈ xs, KeyAt X.K H x.1 x.2.1) (kb : KeyAt X.K H k b) (rz : RelV z u) (h : ∀ w' s', Inv X pins σ H s' → RelV ((atN xs k).getD z) w' → Q w' s') : wpAny (model X.prog X.w) A (call (.builtin "dict.get") [.ref a, .ref b, u]) Q E s := by
  obtain ⟨us, r, dd, hd, hl⟩ := ndok_keyed I e hk
  refine getOr_keyed (knd := nestedKind X.prog X.w) (kvs := pairsH us) (nk_room hu) (key_is I kb) hd ⟨us, dd, rfl⟩ ?_
  rw [valueAt_pairsH]
  rcases r.at k with ⟨e1, e2⟩ | ⟨v', p, e1, e2, rv⟩
  · rw [e1] at h; rw [e2]; exact h _ _ (I.tok _) rz
  · rw [e1] at h; rw [e2]; exact h _ _ (I.tok _) rv
theorem n_get1 {Q : Value → Shared → Prop} (hu : A.units + 16 < cLine) (I : Inv X pins σ H s) (e : Rd H a (NdO a xs)) (hk : ∀ x ∈ xs, KeyAt X.K H x.1 x.2.1) (kb : KeyAt X.K H k b) (h : ∀ w' s', Inv X pins σ H s' → RelV ((atN xs k).getD .non) w' → Q w' s') : wpAny (model X.prog X.w) A (call (.builtin "dict.get") [.ref a, .ref b]) Q E s := by
  obtain ⟨us, r, dd, hd, hl⟩ := ndok_keyed I e hk
  refine get_keyed (knd := nestedKind X.prog X.w) (kvs := pairsH us) (nk_room hu) (key_is I kb) hd ⟨us, dd, rfl⟩ ?_
  rw [valueAt_pairsH]
  rcases r.at k with ⟨e1, e2⟩ | ⟨v', p, e1, e2, rv⟩
  · rw [e1] at h; rw [e2]; exact h _ _ (I.tok _) rfl
  · rw [e1] at h; rw [e2]; exact h _ _ (I.tok _) rv
theorem storedH_obj {P : Program} {w : World} {h' : Heap} {ys : List NRow} {us : List (NestedKey × Addr × Value)} (hd : (a == sysModules) = false) (hl : ys.length ≤ sizeLine) (pl : ∀ x ∈ ys, plainK x.1 = true) (r : NRel ys us) (dd : h'.DictOfH (nestedKind P w) a us) : NdOk a ys h' := by
  obtain ⟨o, es, ep, ho, hx, hdt, he, _, hn⟩ := dd
  exact ⟨hl, hd, pl, us, w, r, o, es, ep, ho, hx, hdt, he, hn⟩
theorem n_set {Q : Unit → Shared → Prop} {v : V} {u : Value} (hu : A.units + 16 < cLine) (I : Inv X pins σ H s) (e : H a = some (NdO a xs)) (hk : ∀ x ∈ xs, KeyAt X.K H x.1 x.2.1) (kb : KeyAt X.K H k b) (pk : plainK k = true) (rv : RelV v u) (hz : xs.length < sizeLine) (h : ∀ s', Inv X pins σ (upd H a (NdO a (putN xs k b v))) s' → Q () s') : wpAny (model X.prog X.w) A (setItem (.ref a) (.ref b) u) Q E s := by
  obtain ⟨us, r, dd, hd, hl⟩ := ndok_keyed I (.inl e) hk
  obtain ⟨_, _, pl, _⟩ := Inv.ndok I (.inl e)
  refine wpAny_setItem_heap (hsz := hl) (nk_room hu) (key_is I kb) dd fun h' dd' hs => h _ ?_
  have pl' : ∀ x ∈ putN xs k b v, plainK x.1 = true := fun x hx => by
    unfold putN at hx
    split at hx
    · obtain ⟨y, hy, rfl⟩ := List.mem_map.mp hx
      by_cases q : y.1 = k
      · rw [if_pos q]; exact pl y hy
      · rw [if_neg q]; exact pl y hy
    · rcases List.mem_append.mp hx with q | q
      · exact pl x q
      · rw [List.mem_singleton.mp q]; exact pk
  have ok := storedH_obj hd (by have := putN_len xs k b v; omega) pl' (r.put k rv) dd'
  have he : ∃ q, h'.get? a = some q := by obtain ⟨o, _, _, ho, _⟩ := dd'; exact ⟨o, ho⟩
  exact d_write I (by rw [e]; exact True.intro) hs he (ndok_obj ok)
theorem n_del {Q : Unit → Shared → Prop} {v : V} (hu : A.units + 16 < cLine) (I : Inv X pins σ H s) (e : H a = some (NdO a xs)) (hk : ∀ x ∈ xs, KeyAt X.K H x.1 x.2.1) (kb : KeyAt X.K H k b) (hv : atN xs k = some v) (h : ∀ s', Inv X pins σ (upd H a (NdO a (delN xs k))) s' → Q () s') : wpAny (model X.prog X.w) A (delItem (.ref a) (.ref b)) Q E s := by
  obtain ⟨us, r, dd, hd, hl⟩ := ndok_keyed I (.inl e) hk
  obtain ⟨hz, _, pl, _⟩ := Inv.ndok I (.inl e)
  rcases r.at k with ⟨e1, _⟩ | ⟨v', p, e1, e2, rv⟩
  · rw [e1] at hv; cases hv
  · refine wpAny_delItem_heap (hsz := hl) (nk_room hu) (key_is I kb) hd dd e2 fun h' dd' hs => h _ ?_
    have ok := storedH_obj hd (Nat.le_trans (List.length_filter_le _ _) hz) (fun x hx => pl x (List.mem_filter.mp hx).1) (r.del (k := k)) dd'
    have he : ∃ q, h'.get? a = some q := by obtain ⟨o, _, _, ho, _⟩ := dd'; exact ⟨o, ho⟩
    exact d_write I (by rw [e]; exact True.intro) hs he (ndok_obj ok)
/-- {} -/
theorem nd_new (I : Inv X pins σ H s) : Inv X pins σ (upd H s.heap.objs.size (NdO s.heap.objs.size [])) { s with heap := s.heap.push { cls := .type "dict", data := .dict #[] } } := by
  refine I.laid (t' := s.toks) (fun _ _ q => Heap.get?_push_of_some _ q) (Nat.le_refl _) (ndok_obj ?_)
  obtain ⟨o, es, ep, ho, hx, hdt, he, _, hn⟩ := Heap.DictOfH.new (knd := nestedKind X.prog X.w) s.heap
  have hb : (s.heap.objs.size == sysModules) = false := beq_eq_false_iff_ne.mpr (Nat.ne_of_gt I.big)
  exact ⟨Nat.zero_le _, hb, (fun x hx => nomatch hx), [], X.w, .nil, o, es, ep, ho, hx, hdt, he, hn⟩
def tDNewN : TE := fun σ H Q => ∀ p, H p = none → Q (.ref p) (upd H p (NdO p []))
theorem pe_dnewN {pos : Pos} : PE X (.Dict [] [] pos) tDNewN := ⟨fun pins s σ H Q I h => wpAny_Dict_empty ⟨.ref s.heap.objs.size, _, nd_new I, rfl, h _ (I.hok.fresh (Nat.le_refl _))⟩⟩
end
/-! ### for k in d, d locked -/
def Itn (d : Addr) (o : Obj) (xs : List NRow) : It :=
  ⟨fun i H => H d = some (.frz o (NdO d xs)) ∧ i < xs.length, fun i H x H' => H' = H ∧ ∃ y, xs[i]? = some y ∧ x = .ref y.2.1, fun i H => H d = some (.frz o (NdO d xs)) ∧ xs.length ≤ i⟩
theorem Inv.frzN {X : Cx} {pins : List (Addr × Obj)} {σ : L2.St} {H : Hp} {s : Shared} {d : Addr} {o : Obj} {xs : List NRow} (I : Inv X pins σ H s) (h : H d = some (.frz o (NdO d xs))) :
    (d == sysModules) = false ∧ s.heap.get? d = some o ∧ o.ExactDict ∧ ∃ (es : Array DictEntry) (ep : Nat), o.data = .dict es ep ∧ es.size = xs.length ∧ ∀ (i : Nat) (y : NRow), xs[i]? = some y → ∃ en : DictEntry, es[i]? = some en ∧ en.key = .ref y.2.1 := by
  obtain ⟨hd, k⟩ := I.hok d _ h
  obtain ⟨⟨z, hs, pl, us, w, r, o', es, ep, ho, hx, hdt, he, _⟩, _⟩ := k
  rw [hd] at ho
  cases ho
  have l2 := Paired.length r
  refine ⟨hs, hd, hx, es, ep, hdt, ?_, fun i y e => ?_⟩
  · have := congrArg List.length he
    rw [List.length_map, Array.length_toList] at this
    omega
  · obtain ⟨u, hu, q⟩ := paired_get r e
    have z : es.toList[i]? = some (⟨u.1.hash w, .ref u.2.1, u.2.2⟩ : DictEntry) := by rw [he, List.getElem?_map, hu]; rfl
    refine ⟨_, by rw [← Array.getElem?_toList]; exact z, ?_⟩
    show Value.ref u.2.1 = _
    rw [q.2.1]
section
variable {P : Program} {w : World} {K : PySem.W.Frag} {tg : Expr} {d : Addr} {o : Obj} {es : Array DictEntry} {ep : Nat}
theorem turn_keysN {xs : List NRow} (it : Addr) (hod : o.data = .dict es ep) : Turn P w K tg (Itn d o xs) [it] it (fun i h => h.IsKeyIter it d i xs.length ep) where
  mem := by simp
  obj := fun i h st b hb => by
    obtain rfl : b = it := by simpa using hb
    obtain ⟨oi, e, c, dd⟩ := st
    exact ⟨oi, e, fun v z => by rw [dd] at z; cases z⟩
  keep := fun i h h' st k => st.at fun oi e => k it (by simp) oi e
  item := by
    intro X hP hw hK hc i pins s σ H E I hf st hg
    subst hP hw hK
    obtain ⟨hd, hi⟩ := hg
    obtain ⟨f0, f1, f2, f3, f4, f5⟩ := hf it (by simp)
    obtain ⟨hs, hgd, hx, es', ep', hdt, hsz, ent⟩ := Inv.frzN I hd
    obtain ⟨rfl, rfl⟩ := dict_ep hod hdt
    obtain ⟨y, hy⟩ : ∃ y, xs[i]? = some y := ⟨xs[i], List.getElem?_eq_getElem hi⟩
    obtain ⟨en, hen, hkey⟩ := ent i y hy
    refine next_key_item st hgd hdt hsz hen fun h' st' sb => ?_
    have I1 : Inv X pins σ H { s with heap := h' } := I.turned (t' := s.toks) (fun b ob hb e => (sb.2 b hb).trans e) f0 f1 f3 f4 f5
    obtain ⟨oi, e, c, dd⟩ := id st'
    exact ⟨en.key, rfl, go_of (s := { s with heap := h' }) e c dd (by decide) ⟨.ref y.2.1, H, I1, hkey, ⟨rfl, y, hy, rfl⟩, st', fun b hb => (hf b hb).1⟩⟩
  done := by
    intro X hP hw hK hc i pins s σ H E I hf st hg
    subst hP hw hK
    obtain ⟨hd, hi⟩ := hg
    obtain ⟨f0, f1, f2, f3, f4, f5⟩ := hf it (by simp)
    obtain ⟨hs, hgd, hx, es', ep', hdt, hsz, ent⟩ := Inv.frzN I hd
    obtain ⟨rfl, rfl⟩ := dict_ep hod hdt
    exact next_key_end (I.ok.hd hc) st hgd hdt hsz hi fun h' eb => ⟨rfl, I.turned (t' := s.toks) (fun b ob hb e => eb b ob hb e) f0 f1 f3 f4 f5⟩
  self := fun A i s Q E st h => by
    have ht := st.typeIs
    refine wpAny_pyIter_slot ht F.slot_dict_keyiterator_iter (wpAny_call_entry F.slot_dict_keyiterator_iter ht F.entry_dict_keyiterator_iter ?_ (F.args_dict_keyiterator_iter_1 _))
    exact wpAny_pure ⟨_, rfl, "dict_keyiterator", _, ht, F.slot_dict_keyiterator_next.lookup, h⟩
end
end DL

set_option Elab.async false
set_option linter.all false
set_option maxRecDepth 100000
set_option maxHeartbeats 400000
/-! The data layer: a def's body by a plain Lean function over data (PyData), the heap hidden.
Part 1: data in a heap, results, the readings of expressions. -/
namespace DL
open PySem PySem.Spec PyProof.Rows L2

/-! ### data in a heap -/
def keyD : PyData → Option Key
  | .int i => some (.inl i)
  | .str s => some (.inr s)
  | _ => none
mutual
inductive Rp (S : Hp) : V → PyData → Prop
  | non : Rp S .non .none
  | bl (b : Bool) : Rp S (.bl b) (.bool b)
  | int (i : Int) : Rp S (.int i) (.int i)
  | str (x : Str) : Rp S (.str x) (.str x)
  | lst {a : Addr} {xs : List V} {ds : List PyData} : S a = some (.lst xs) → Rps S xs ds → Rp S (.ref a) (.list ds)
  | tup {a : Addr} {xs : List V} {ds : List PyData} : S a = some (.tup xs) → Rps S xs ds → Rp S (.ref a) (.tuple ds)
  | dic {a : Addr} {o : Obj} {ws : List (Key × V)} {kvs : List (PyData × PyData)} : S a = some (.frz o (.dK ws)) → Rpk S ws kvs → Rp S (.ref a) (.dict kvs)
  | dicN {a : Addr} {o : Obj} {xs : List NRow} {kvs : List (PyData × PyData)} : S a = some (.frz o (NdO a xs)) → Rpn S xs kvs → Rp S (.ref a) (ndD kvs)
inductive Rps (S : Hp) : List V → List PyData → Prop
  | nil : Rps S [] []
  | cons {v : V} {d : PyData} {vs : List V} {ds : List PyData} : Rp S v d → Rps S vs ds → Rps S (v :: vs) (d :: ds)
inductive Rpk (S : Hp) : List (Key × V) → List (PyData × PyData) → Prop
  | nil : Rpk S [] []
  | cons {k : Key} {v : V} {e d : PyData} {ws : List (Key × V)} {kvs : List (PyData × PyData)} : keyD e = some k → Rp S v d → Rpk S ws kvs → Rpk S ((k, v) :: ws) ((e, d) :: kvs)
inductive Rpn (S : Hp) : List NRow → List (PyData × PyData) → Prop
  | nil : Rpn S [] []
  | cons {k : NestedKey} {b : Addr} {v : V} {e d : PyData} {xs : List NRow} {kvs : List (PyData × PyData)} : nkD e = some k → k.depth ≤ 8 → e.canLay0 = true → Rp S (.ref b) e → Rp S v d → Rpn S xs kvs → Rpn S ((k, b, v) :: xs) ((e, d) :: kvs)
end

mutual
theorem Rp.mono {S S' : Hp} (h : Same S S') : ∀ {d : PyData} {v : V}, Rp S v d → Rp S' v d
  | _, _, .non => .non
  | _, _, .bl b => .bl b
  | _, _, .int i => .int i
  | _, _, .str x => .str x
  | _, _, .lst e r => .lst (h _ _ e) (Rps.mono h r)
  | _, _, .tup e r => .tup (h _ _ e) (Rps.mono h r)
  | _, _, .dic e r => .dic (h _ _ e) (Rpk.mono h r)
  | _, _, .dicN e r => .dicN (h _ _ e) (Rpn.mono h r)
theorem Rps.mono {S S' : Hp} (h : Same S S') : ∀ {ds : List PyData} {vs : List V}, Rps S vs ds → Rps S' vs ds
  | _, _, .nil => .nil
  | _, _, .cons r t => .cons (Rp.mono h r) (Rps.mono h t)
theorem Rpk.mono {S S' : Hp} (h : Same S S') : ∀ {kvs : List (PyData × PyData)} {ws : List (Key × V)}, Rpk S ws kvs → Rpk S' ws kvs
  | _, _, .nil => .nil
  | _, _, .cons e r t => .cons e (Rp.mono h r) (Rpk.mono h t)
theorem Rpn.mono {S S' : Hp} (h : Same S S') : ∀ {kvs : List (PyData × PyData)} {xs : List NRow}, Rpn S xs kvs → Rpn S' xs kvs
  | _, _, .nil => .nil
  | _, _, .cons a b c r q t => .cons a b c (Rp.mono h r) (Rp.mono h q) (Rpn.mono h t)
end
mutual
theorem Rp.dp {K : PySem.W.Frag} {S H : Hp} (h : Same S H) : ∀ {d : PyData} {v : V}, d.canLay0 = true → Rp S v d → Dp K H v d
  | _, _, _, .non => .non
  | _, _, _, .bl b => .bl b
  | _, _, _, .int i => .int i
  | _, _, _, .str x => .str x
  | _, _, c, .lst e r => .lst (.of (h _ _ e)) (Rps.dp h (by simpa [PyData.canLay0] using c) r)
  | _, _, c, .tup e r => .tup (.of (h _ _ e)) (Rps.dp h (by simpa [PyData.canLay0] using c) r)
  | _, _, c, .dic e r => by simp [PyData.canLay0] at c
  | _, _, c, .dicN e r => by simp [ndD, PyData.canLay0] at c
theorem Rps.dp {K : PySem.W.Frag} {S H : Hp} (h : Same S H) : ∀ {ds : List PyData} {vs : List V}, PyData.canLayAll0 ds = true → Rps S vs ds → DpAll K H vs ds
  | _, _, _, .nil => .nil
  | _, _, c, .cons r t => .cons (Rp.dp h (by simp [PyData.canLayAll0] at c; exact c.1) r) (Rps.dp h (by simp [PyData.canLayAll0] at c; exact c.2) t)
end
theorem key_one : ∀ {d e : PyData} {k : Key}, keyD d = some k → keyD e = some k → d = e
  | .int i, .int j, k, h, h' => by cases h; cases h'; rfl
  | .str i, .str j, k, h, h' => by cases h; cases h'; rfl
  | .int i, .str j, k, h, h' => by cases h; cases h'
  | .str i, .int j, k, h, h' => by cases h; cases h'
  | .int i, .none, k, h, h' => nomatch h'
  | .int i, .bool _, k, h, h' => nomatch h'
  | .int i, .list _, k, h, h' => nomatch h'
  | .int i, .tuple _, k, h, h' => nomatch h'
  | .int i, .dict _, k, h, h' => nomatch h'
  | .str i, .none, k, h, h' => nomatch h'
  | .str i, .bool _, k, h, h' => nomatch h'
  | .str i, .list _, k, h, h' => nomatch h'
  | .str i, .tuple _, k, h, h' => nomatch h'
  | .str i, .dict _, k, h, h' => nomatch h'
  | .none, _, k, h, h' => nomatch h
  | .bool _, _, k, h, h' => nomatch h
  | .list _, _, k, h, h' => nomatch h
  | .tuple _, _, k, h, h' => nomatch h
  | .dict _, _, k, h, h' => nomatch h
theorem Rps.length {S : Hp} : ∀ {ds : List PyData} {vs : List V}, Rps S vs ds → vs.length = ds.length
  | _, _, .nil => rfl
  | _, _, .cons _ t => by rw [List.length_cons, List.length_cons, Rps.length t]
theorem Rps.get {S : Hp} : ∀ {ds : List PyData} {vs : List V} {i : Nat} {v : V}, Rps S vs ds → vs[i]? = some v → ∃ d, ds[i]? = some d ∧ Rp S v d
  | _, _, _, _, .nil, e => by simp at e
  | _, _, 0, _, .cons r _, e => by simp at e; subst e; exact ⟨_, rfl, r⟩
  | _, _, i + 1, v, .cons _ t, e => by
    obtain ⟨d, h1, h2⟩ := Rps.get (i := i) (v := v) t (by simpa using e)
    exact ⟨d, by simpa using h1, h2⟩
theorem Rps.getD {S : Hp} : ∀ {ds : List PyData} {vs : List V} {i : Nat} {d : PyData}, Rps S vs ds → ds[i]? = some d → ∃ v, vs[i]? = some v ∧ Rp S v d
  | _, _, _, _, .nil, e => by simp at e
  | _, _, 0, _, .cons r _, e => by simp at e; subst e; exact ⟨_, rfl, r⟩
  | _, _, i + 1, v, .cons _ t, e => by
    obtain ⟨d, h1, h2⟩ := Rps.getD (i := i) (d := v) t (by simpa using e)
    exact ⟨d, by simpa using h1, h2⟩
theorem Rps.append {S : Hp} : ∀ {ds es : List PyData} {vs us : List V}, Rps S vs ds → Rps S us es → Rps S (vs ++ us) (ds ++ es)
  | _, _, _, _, .nil, s => s
  | _, _, _, _, .cons r t, s => .cons r (Rps.append t s)
theorem Rps.take {S : Hp} : ∀ {ds : List PyData} {vs : List V} (n : Nat), Rps S vs ds → Rps S (vs.take n) (ds.take n)
  | _, _, 0, _ => by simpa using Rps.nil
  | _, _, _ + 1, .nil => .nil
  | _, _, n + 1, .cons r t => .cons r (Rps.take n t)
theorem Rps.drop {S : Hp} : ∀ {ds : List PyData} {vs : List V} (n : Nat), Rps S vs ds → Rps S (vs.drop n) (ds.drop n)
  | _, _, 0, r => r
  | _, _, _ + 1, .nil => .nil
  | _, _, n + 1, .cons _ t => Rps.drop n t
theorem Rps.set {S : Hp} : ∀ {ds : List PyData} {vs : List V} {v : V} {d : PyData} (i : Nat), Rp S v d → Rps S vs ds → Rps S (vs.set i v) (ds.set i d)
  | _, _, _, _, _, _, .nil => .nil
  | _, _, _, _, 0, r, .cons _ t => .cons r t
  | _, _, _, _, i + 1, r, .cons q t => .cons q (Rps.set i r t)
theorem Rps.reverse {S : Hp} : ∀ {ds : List PyData} {vs : List V}, Rps S vs ds → Rps S vs.reverse ds.reverse
  | _, _, .nil => .nil
  | _, _, .cons r t => by
    rw [List.reverse_cons, List.reverse_cons]
    exact (Rps.reverse t).append (.cons r .nil)
theorem Rps.flatten {S : Hp} {vs : List V} {ds : List PyData} (r : Rps S vs ds) : ∀ n : Nat, Rps S (List.replicate n vs).flatten (List.replicate n ds).flatten
  | 0 => .nil
  | n + 1 => by
    rw [List.replicate_succ, List.replicate_succ, List.flatten_cons, List.flatten_cons]
    exact r.append (Rps.flatten r n)
theorem Rps.ints {S : Hp} : ∀ {ns : List Int} {vs : List V}, Rps S vs (ns.map PyData.int) → vs = ns.map V.int
  | [], _, .nil => rfl
  | n :: ns, _, .cons r t => by
    cases r
    rw [Rps.ints t, List.map_cons]
theorem Rps.of_ints {S : Hp} : ∀ ns : List Int, Rps S (ns.map V.int) (ns.map PyData.int)
  | [] => .nil
  | n :: ns => .cons (.int n) (Rps.of_ints ns)

/-- a thing that one name alone holds, and that may be changed -/
inductive Ob where
  | lst (ds : List PyData)
  | dk (kvs : List (Key × PyData))
  | dt (kvs : List (List Key × PyData))
  | mat (rows : List (List PyData))
  | fz (kvs : List (Key × PyData))
  | nd (kvs : List (PyData × PyData))
  | fn (kvs : List (PyData × PyData))
/-! ### results -/
/-- what an attribute of an object holds: a datum; a thing of its own -/
inductive FV where
  | sh (d : PyData) | ow (b : Ob)
/-- the draws: the numbers, how many are taken; or the attributes of the object whose method runs -/
inductive GS where
  | dr (ns : List Int) (i : Int)
  /-- c: the class, by the table -/
  | ob (c : Nat) (fs : List (Str × FV))
/-- none: there are neither -/
abbrev G := Option GS
inductive R (α : Type) where
  | ok (a : α) (g : G)
  /-- the exception of the class n -/
  | ex (n : Nat) (g : G)
  | bad
def R.bind {α β : Type} (r : R α) (f : α → G → R β) : R β := match r with
  | .ok a g => f a g
  | .ex n g => .ex n g
  | .bad => .bad
@[simp] theorem R.bind_ok {α β : Type} (a : α) (g : G) (f : α → G → R β) : (R.ok a g).bind f = f a g := rfl
@[simp] theorem R.bind_ex {α β : Type} (n : Nat) (g : G) (f : α → G → R β) : (R.ex n g : R α).bind f = .ex n g := rfl
@[simp] theorem R.bind_bad {α β : Type} (f : α → G → R β) : (R.bad : R α).bind f = .bad := rfl
def ofO {α : Type} (o : Option α) (g : G) : R α := match o with
  | some a => .ok a g
  | none => .bad
@[simp] theorem ofO_some {α : Type} (a : α) (g : G) : ofO (some a) g = .ok a g := rfl
@[simp] theorem ofO_none {α : Type} (g : G) : ofO (none : Option α) g = .bad := rfl

inductive ObAt (S : Hp) (a : Addr) : Ob → HO → Prop
  | lst {ds : List PyData} {vs : List V} : Rps S vs ds → ObAt S a (.lst ds) (.lst vs)
  | dk {kvs : List (Key × PyData)} {ws : List (Key × V)} : Paired (fun (p : Key × PyData) (q : Key × V) => p.1 = q.1 ∧ Rp S q.2 p.2) kvs ws → ObAt S a (.dk kvs) (.dK ws)
  | dt {kvs : List (List Key × PyData)} {ws : List (List Key × V)} : Paired (fun (p : List Key × PyData) (q : List Key × V) => p.1 = q.1 ∧ Rp S q.2 p.2) kvs ws → ObAt S a (.dt kvs) (.dT ws)
  | mat {rows : List (List PyData)} {cs : List Addr} : cs.length = rows.length → ObAt S a (.mat rows) (.lst (cs.map V.ref))
  | fz {o : Obj} {kvs : List (Key × PyData)} {ws : List (Key × V)} : Paired (fun (p : Key × PyData) (q : Key × V) => p.1 = q.1 ∧ Rp S q.2 p.2) kvs ws → ObAt S a (.fz kvs) (.frz o (.dK ws))
  | nd {kvs : List (PyData × PyData)} {xs : List NRow} : Rpn S xs kvs → ObAt S a (.nd kvs) (NdO a xs)
  | fn {o : Obj} {kvs : List (PyData × PyData)} {xs : List NRow} : Rpn S xs kvs → ObAt S a (.fn kvs) (.frz o (NdO a xs))
theorem ObAt.mono {S S' : Hp} {a : Addr} (h : Same S S') {b : Ob} {o : HO} (r : ObAt S a b o) : ObAt S' a b o := by
  cases r with
  | lst r => exact .lst (r.mono h)
  | dk r => exact .dk (Paired.mapP r fun _ _ z => ⟨z.1, z.2.mono h⟩)
  | dt r => exact .dt (Paired.mapP r fun _ _ z => ⟨z.1, z.2.mono h⟩)
  | mat e => exact .mat e
  | nd r => exact .nd (r.mono h)
  | fn r => exact .fn (r.mono h)
  | fz r => exact .fz (Paired.mapP r fun _ _ z => ⟨z.1, z.2.mono h⟩)
/-- a slot: nothing known; a datum; a thing of its own; the draws, or the object whose method runs (true: its __init__); the script -/
inductive Sl where
  | no | sh (d : PyData) | ow (o : Ob) | dx (b : Bool) | sc (n : Nat)
abbrev Sl.dr : Sl := .dx false
abbrev Sl.di : Sl := .dx true
abbrev Nv := List Sl

/-- the ground of a call: the draws' object, whether it lives, what was shared and what there was at the entry -/
structure Bs (cls : Nat → Value) where
  A : Addr
  live : Bool
  S : Hp
  H : Hp
  C : Addr
  N : V
  /-- its __init__ runs: it may be given things of its own -/
  ini : Bool
def vOf : Value → V
  | .ref f => .ref f
  | _ => .non
/-- what a slot .sc n holds: the script, or a def of the table -/
def Bs.fv {cls : Nat → Value} (B : Bs cls) : Nat → V
  | 0 => .ref B.C
  | n + 1 => vOf (cls (n + 1))
variable {cls : Nat → Value}
structure FsAt (A : Addr) (H S : Hp) (vs : List (Str × V)) (fs : List (Str × FV)) : Prop where
  names : vs.map (·.1) = fs.map (·.1)
  sh : ∀ (n : Str) (d : PyData), fs.lookup n = some (.sh d) → ∃ v, vs.lookup n = some v ∧ Rp S v d
  ow : ∀ (n : Str) (b : Ob), fs.lookup n = some (.ow b) → ∃ a o, vs.lookup n = some (.ref a) ∧ S a = none ∧ a ≠ A ∧ H a = some o ∧ ObAt S a b o ∧ ∀ rows, b ≠ .mat rows
  ap : ∀ (n m : Str) (b c : Ob) (a : Addr), fs.lookup n = some (.ow b) → fs.lookup m = some (.ow c) → vs.lookup n = some (.ref a) → vs.lookup m = some (.ref a) → n = m
theorem lookup_none_iff {α β : Type} : ∀ {vs : List (Str × α)} {fs : List (Str × β)}, vs.map (·.1) = fs.map (·.1) → ∀ n : Str, fs.lookup n = none → vs.lookup n = none
  | [], [], _, _, _ => rfl
  | [], _ :: _, h, _, _ => by cases h
  | _ :: _, [], h, _, _ => by cases h
  | (x, v) :: vs, (y, w) :: fs, h, n, e => by
    rw [List.map_cons, List.map_cons] at h
    injection h with h1 h2
    have h1 : x = y := h1
    subst h1
    rw [List.lookup_cons] at e ⊢
    cases q : n == x with
    | true => rw [q] at e; cases e
    | false => rw [q] at e; exact lookup_none_iff h2 n e
def DrAt (B : Bs cls) (H S : Hp) : G → Prop
  | none => B.live = false
  | some (.dr ns i) => B.live = true ∧ H B.A = some (.lst [B.N, .int i]) ∧ Rp S B.N (.list (ns.map PyData.int))
  | some (.ob c fs) => B.live = true ∧ ∃ C dx vs, cls c = .ref C ∧ H B.A = some (.ins C dx vs) ∧ FsAt B.A H S vs fs
/-- what may change: the draws' object; an object and what it alone holds -/
def Exm (B : Bs cls) (H S : Hp) (a : Addr) : Prop := B.live = true ∧ (a = B.A ∨ (S a = none ∧ ∃ C dx vs n, H B.A = some (.ins C dx vs) ∧ vs.lookup n = some (.ref a)))
theorem Exm.back {B : Bs cls} {H S H' S' : Hp} (hs : Same S S') (hA : B.live = true → H' B.A = H B.A) {a : Addr} (h : Exm B H' S' a) : Exm B H S a := by
  obtain ⟨hl, h⟩ := h
  refine ⟨hl, ?_⟩
  rcases h with h | ⟨h1, C, dx, vs, n, h2, h3⟩
  · exact .inl h
  · refine .inr ⟨?_, C, dx, vs, n, by rw [← hA hl]; exact h2, h3⟩
    cases q : S a with
    | none => rfl
    | some o => rw [hs _ _ q] at h1; cases h1
theorem Exm.upd_iff {B : Bs cls} {H S : Hp} {D : Addr} {o : HO} (hD : B.live = true → D ≠ B.A) {a : Addr} : Exm B (upd H D o) S a ↔ Exm B H S a :=
  ⟨fun x => x.back (Same.refl _) fun hl => upd_ne (Ne.symm (hD hl)), fun x => x.back (Same.refl _) fun hl => (upd_ne (Ne.symm (hD hl))).symm⟩
/-- no object's method runs -/
def nob : G → Bool
  | some (.ob _ _) => false
  | _ => true
class NoOb (g : G) : Prop where
  nb : nob g = true
theorem Exm.nob {B : Bs cls} {H S S' : Hp} {g : G} (d : DrAt B H S g) (n : nob g = true) {a : Addr} (x : Exm B H S' a) : a = B.A := by
  obtain ⟨hl, x⟩ := x
  match g, d, n with
  | none, d, _ => rw [show B.live = false from d] at hl; cases hl
  | some (.dr ns i), d, _ =>
    rcases x with x | ⟨_, C, dx, vs, m, e, _⟩
    · exact x
    · obtain ⟨_, e', _⟩ := d; rw [e'] at e; cases e
  | some (.ob _ _), _, n => cases n
structure Fin (B : Bs cls) (H S : Hp) (g : G) : Prop where
  sub : Same S H
  keep : ∀ a o, B.H a = some o → ¬ Exm B B.H B.S a → H a = some o
  base : Same B.S S
  new : ∀ a, S a ≠ none → B.S a ≠ none ∨ B.H a = none
  there : ∀ a, B.H a ≠ none → H a ≠ none
  no : B.live = true → S B.A = none
  dr : DrAt B H S g
  own : ∀ a, (B.ini = true → B.H a ≠ none) → Exm B H S a → Exm B B.H B.S a
theorem DrAt.live {B : Bs cls} {H S : Hp} : ∀ {g : G}, DrAt B H S g → B.live = true → H B.A ≠ none
  | none, h, hl => by rw [show B.live = false from h] at hl; cases hl
  | some (.dr ns i), h, _ => by obtain ⟨_, e, _⟩ := h; rw [e]; simp
  | some (.ob c fs), h, _ => by obtain ⟨_, _, _, _, _, e, _⟩ := h; rw [e]; simp
theorem DrAt.exm {B : Bs cls} {H S : Hp} {g : G} {a : Addr} (h : DrAt B H S g) (x : Exm B H S a) : H a ≠ none := by
  obtain ⟨hl, x⟩ := x
  rcases x with rfl | ⟨h1, C, dx, vs, n, h2, h3⟩
  · exact h.live hl
  · match g, h with
    | none, h => rw [show B.live = false from h] at hl; cases hl
    | some (.dr ns i), h => obtain ⟨_, e, _⟩ := h; rw [e] at h2; cases h2
    | some (.ob c fs), h =>
      obtain ⟨_, C', dx', vs', _, e, F⟩ := h
      rw [e] at h2
      cases h2
      cases q : fs.lookup n with
      | none => rw [lookup_none_iff F.names n q] at h3; cases h3
      | some z =>
        cases z with
        | sh d =>
          obtain ⟨v, k1, k2⟩ := F.sh n d q
          rw [h3] at k1
          cases k1
          cases k2 with
          | lst k _ => rw [h1] at k; cases k
          | tup k _ => rw [h1] at k; cases k
          | dic k _ => rw [h1] at k; cases k
          | dicN k _ => rw [h1] at k; cases k
        | ow b =>
          obtain ⟨a', o, k1, _, _, k4, _⟩ := F.ow n b q
          rw [h3] at k1
          cases k1
          rw [k4]; simp
theorem DrAt.mono {B : Bs cls} {H S H' S' : Hp} (hs : Same S S') (hA : ∀ a, Exm B H S a → H' a = H a) (hS : ∀ a, Exm B H S a → S a = none → S' a = none) : ∀ {g : G}, DrAt B H S g → DrAt B H' S' g
  | none, h => h
  | some (.dr ns i), h => by obtain ⟨hl, e, r⟩ := h; exact ⟨hl, by rw [hA B.A ⟨hl, .inl rfl⟩]; exact e, r.mono hs⟩
  | some (.ob c fs), h => by
    obtain ⟨hl, C, dx, vs, hN, e, F⟩ := h
    refine ⟨hl, C, dx, vs, hN, by rw [hA B.A ⟨hl, .inl rfl⟩]; exact e, F.names, fun n d q => ?_, fun n b q => ?_, F.ap⟩
    · obtain ⟨v, k1, k2⟩ := F.sh n d q
      exact ⟨v, k1, k2.mono hs⟩
    · obtain ⟨a, o, k1, k2, k3, k4, k5, k6⟩ := F.ow n b q
      have x : Exm B H S a := ⟨hl, .inr ⟨k2, C, dx, vs, n, e, k1⟩⟩
      exact ⟨a, o, k1, hS a x k2, k3, by rw [hA a x]; exact k4, k5.mono hs, k6⟩
/-- growth: what stands stays, but what may change -/
structure Gr (B : Bs cls) (H S H' S' : Hp) : Prop where
  keep : ∀ a o, H a = some o → ¬ Exm B H S a → H' a = some o
  base : Same S S'
  new : ∀ a, S' a ≠ none → S a ≠ none ∨ H a = none
  there : ∀ a, H a ≠ none → H' a ≠ none
  own : ∀ a, Exm B H' S' a → Exm B H S a
theorem Gr.refl {B : Bs cls} {H S : Hp} : Gr B H S H S := ⟨fun _ _ h _ => h, Same.refl _, fun _ h => .inl h, fun _ h => h, fun _ h => h⟩
theorem Gr.trans {B : Bs cls} {H S H1 S1 H2 S2 : Hp} (a : Gr B H S H1 S1) (b : Gr B H1 S1 H2 S2) : Gr B H S H2 S2 :=
  ⟨fun c o h n => b.keep c o (a.keep c o h n) fun x => n (a.own c x), a.base.trans b.base, fun c h => by
    rcases b.new c h with z | z
    · exact a.new c z
    · refine .inr ?_
      cases e : H c with
      | none => rfl
      | some o => exact absurd z (a.there c (by rw [e]; simp)), fun c h => b.there c (a.there c h), fun c x => a.own c (b.own c x)⟩
/-- the rows of a list of lists that nobody else holds -/
structure Rws (B : Bs cls) (H S : Hp) (rows : List (List PyData)) (cs : List Addr) : Prop where
  nd : cs.Nodup
  at_ : ∀ (k : Nat) (c : Addr) (row : List PyData), cs[k]? = some c → rows[k]? = some row → S c = none ∧ ¬ Exm B H S c ∧ B.H c = none ∧ ∃ vs, H c = some (.lst vs) ∧ Rps S vs row
structure Good (B : Bs cls) (σ : L2.St) (H S : Hp) (ρ : Nv) (g : G) : Prop extends Fin B H S g where
  len : σ.length = ρ.length
  sh : ∀ (i : Nat) (d : PyData), ρ[i]? = some (.sh d) → ∃ v, σ[i]? = some (some v) ∧ Rp S v d
  dw : ∀ (i : Nat) {b : Bool}, ρ[i]? = some (.dx b) → σ[i]? = some (some (.ref B.A)) ∧ B.live = true ∧ (b = true → B.ini = true)
  sw : ∀ (i n : Nat), ρ[i]? = some (.sc n) → σ[i]? = some (some (B.fv n))
  ow : ∀ (i : Nat) (b : Ob), ρ[i]? = some (.ow b) → ∃ a o, σ[i]? = some (some (.ref a)) ∧ S a = none ∧ ¬ Exm B H S a ∧ B.H a = none ∧ H a = some o ∧ ObAt S a b o
  ap : ∀ (i j : Nat) (b c : Ob) (a : Addr), ρ[i]? = some (.ow b) → ρ[j]? = some (.ow c) → σ[i]? = some (some (.ref a)) → σ[j]? = some (some (.ref a)) → i = j
  mx : ∀ (i : Nat) (rows : List (List PyData)) (a : Addr) (cs : List Addr), ρ[i]? = some (.ow (.mat rows)) → σ[i]? = some (some (.ref a)) → H a = some (.lst (cs.map V.ref)) → Rws B H S rows cs ∧
    (∀ (j : Nat) (b : Ob) (a' : Addr), ρ[j]? = some (.ow b) → σ[j]? = some (some (.ref a')) → a' ∉ cs) ∧
    (∀ (j : Nat) (rows' : List (List PyData)) (a' : Addr) (cs' : List Addr), j ≠ i → ρ[j]? = some (.ow (.mat rows')) → σ[j]? = some (some (.ref a')) → H a' = some (.lst (cs'.map V.ref)) → ∀ c ∈ cs, c ∉ cs')

theorem none_of {B : Bs cls} {H S H' S' : Hp} (e : Gr B H S H' S') {a : Addr} (h1 : H a ≠ none) (h2 : S a = none) : S' a = none := by
  cases q : S' a with
  | none => rfl
  | some o =>
    rcases e.new a (by rw [q]; simp) with z | z
    · exact absurd h2 z
    · exact absurd z h1
theorem none_back {B : Bs cls} {H S H' S' : Hp} (e : Gr B H S H' S') {a : Addr} (h : H' a = none) : H a = none := by
  cases q : H a with
  | none => rfl
  | some o => exact absurd h (e.there a (by rw [q]; simp))
theorem addr_of {σ : L2.St} {i : Nat} {a b : Addr} (h : σ[i]? = some (some (.ref a))) (k : σ[i]? = some (some (.ref b))) : a = b := by
  rw [h] at k
  injection k with k
  injection k with k
  injection k with k
theorem refs_inj : ∀ {cs ds : List Addr}, cs.map V.ref = ds.map V.ref → cs = ds
  | [], [], _ => rfl
  | [], _ :: _, h => by cases h
  | _ :: _, [], h => by cases h
  | c :: cs, d :: ds, h => by
    rw [List.map_cons, List.map_cons] at h
    injection h with h1 h2
    injection h1 with h1
    rw [h1, refs_inj h2]
theorem Rws.row {B : Bs cls} {H S : Hp} {rows : List (List PyData)} {cs : List Addr} (R : Rws B H S rows cs) (hl : cs.length = rows.length) {c : Addr} (h : c ∈ cs) : S c = none ∧ ¬ Exm B H S c ∧ B.H c = none ∧ H c ≠ none := by
  obtain ⟨k, hk, rfl⟩ := List.getElem_of_mem h
  obtain ⟨h1, h2, h3, vs, h4, _⟩ := R.at_ k cs[k] (rows[k]'(by omega)) (List.getElem?_eq_getElem hk) (List.getElem?_eq_getElem (by omega))
  exact ⟨h1, h2, h3, by rw [h4]; simp⟩
/-- a change of the heap and of what is shared that leaves the rows as they are -/
theorem Rws.move {B : Bs cls} {H S H' S' : Hp} {rows : List (List PyData)} {cs : List Addr} (R : Rws B H S rows cs) (hs : Same S S') (h : ∀ c ∈ cs, H' c = H c) (n : ∀ c ∈ cs, S' c = none) (x : ∀ c ∈ cs, Exm B H' S' c → Exm B H S c) : Rws B H' S' rows cs :=
  ⟨R.nd, fun k c row e1 e2 => by
    obtain ⟨h1, h2, h3, vs, h4, h5⟩ := R.at_ k c row e1 e2
    have hc := List.mem_of_getElem? e1
    exact ⟨n c hc, fun z => h2 (x c hc z), h3, vs, by rw [h c hc]; exact h4, h5.mono hs⟩⟩
section
variable {B : Bs cls} {σ : L2.St} {H S H' S' H1 S1 : Hp} {ρ : Nv} {g g' g1 : G}
theorem Good.rows (I : Good B σ H S ρ g) {i : Nat} {rows : List (List PyData)} (h : ρ[i]? = some (.ow (.mat rows))) : ∃ a cs, σ[i]? = some (some (.ref a)) ∧ H a = some (.lst (cs.map V.ref)) ∧ cs.length = rows.length ∧ S a = none ∧ ¬ Exm B H S a ∧ B.H a = none ∧ Rws B H S rows cs := by
  obtain ⟨a, o, h1, h2, h3, h4, h5, h6⟩ := I.ow i _ h
  cases h6 with
  | @mat _ cs hl => exact ⟨a, cs, h1, h5, hl, h2, h3, h4, (I.mx i rows a cs h h1 h5).1⟩
theorem Good.rowsAt (I : Good B σ H S ρ g) {i : Nat} {rows : List (List PyData)} {a : Addr} {cs : List Addr} (h : ρ[i]? = some (.ow (.mat rows))) (h1 : σ[i]? = some (some (.ref a))) (h2 : H a = some (.lst (cs.map V.ref))) : cs.length = rows.length := by
  obtain ⟨a', cs', k1, k2, k3, _⟩ := I.rows h
  have e := addr_of h1 k1
  subst e
  rw [h2] at k2
  injection k2 with k2
  injection k2 with k2
  rw [refs_inj k2]; exact k3
/-- the third part, carried over to a heap and a sharing that leave all own lists of lists as they are -/
theorem Good.mxMove {σ' : L2.St} {ρ' : Nv} (I : Good B σ H S ρ g) (hs : Same S S') (hr : ∀ (i : Nat) (b : Ob), ρ'[i]? = some (.ow b) → (∃ b0, ρ[i]? = some (.ow b0)) ∧ σ'[i]? = σ[i]?) (hm : ∀ (i : Nat) (rows : List (List PyData)), ρ'[i]? = some (.ow (.mat rows)) → ρ[i]? = some (.ow (.mat rows)))
    (hh : ∀ (i : Nat) (rows : List (List PyData)) (a : Addr), ρ'[i]? = some (.ow (.mat rows)) → σ[i]? = some (some (.ref a)) → H' a = H a) (hc : ∀ (i : Nat) (rows : List (List PyData)) (a : Addr) (cs : List Addr), ρ'[i]? = some (.ow (.mat rows)) → ρ[i]? = some (.ow (.mat rows)) → σ[i]? = some (some (.ref a)) → H a = some (.lst (cs.map V.ref)) → ∀ c ∈ cs, H' c = H c ∧ S' c = none ∧ (Exm B H' S' c → Exm B H S c))
    (i : Nat) (rows : List (List PyData)) (a : Addr) (cs : List Addr) (e1 : ρ'[i]? = some (.ow (.mat rows))) (e2 : σ'[i]? = some (some (.ref a))) (e3 : H' a = some (.lst (cs.map V.ref))) : Rws B H' S' rows cs ∧
    (∀ (j : Nat) (b : Ob) (a' : Addr), ρ'[j]? = some (.ow b) → σ'[j]? = some (some (.ref a')) → a' ∉ cs) ∧
    (∀ (j : Nat) (rows' : List (List PyData)) (a' : Addr) (cs' : List Addr), j ≠ i → ρ'[j]? = some (.ow (.mat rows')) → σ'[j]? = some (some (.ref a')) → H' a' = some (.lst (cs'.map V.ref)) → ∀ c ∈ cs, c ∉ cs') := by
  have f2 := (hr i _ e1).2
  have f1 := hm i _ e1
  rw [f2] at e2
  rw [hh i _ a e1 e2] at e3
  obtain ⟨R, A1, A2⟩ := I.mx i rows a cs f1 e2 e3
  refine ⟨R.move hs (fun c h => (hc i rows a cs e1 f1 e2 e3 c h).1) (fun c h => (hc i rows a cs e1 f1 e2 e3 c h).2.1) fun c h => (hc i rows a cs e1 f1 e2 e3 c h).2.2, fun j b a' k1 k2 => ?_, fun j rows' a' cs' hj k1 k2 k3 => ?_⟩
  · obtain ⟨⟨b0, l1⟩, l2⟩ := hr j b k1
    rw [l2] at k2
    exact A1 j b0 a' l1 k2
  · have l2 := (hr j _ k1).2
    rw [l2] at k2
    rw [hh j _ a' k1 k2] at k3
    exact A2 j rows' a' cs' hj (hm j _ k1) k2 k3
/-- where heap and sharing stay -/
theorem Good.mxSame {σ' : L2.St} {ρ' : Nv} (I : Good B σ H S ρ g) (hr : ∀ (i : Nat) (b : Ob), ρ'[i]? = some (.ow b) → ρ[i]? = some (.ow b) ∧ σ'[i]? = σ[i]?)
    (i : Nat) (rows : List (List PyData)) (a : Addr) (cs : List Addr) (e1 : ρ'[i]? = some (.ow (.mat rows))) (e2 : σ'[i]? = some (some (.ref a))) (e3 : H a = some (.lst (cs.map V.ref))) : Rws B H S rows cs ∧
    (∀ (j : Nat) (b : Ob) (a' : Addr), ρ'[j]? = some (.ow b) → σ'[j]? = some (some (.ref a')) → a' ∉ cs) ∧
    (∀ (j : Nat) (rows' : List (List PyData)) (a' : Addr) (cs' : List Addr), j ≠ i → ρ'[j]? = some (.ow (.mat rows')) → σ'[j]? = some (some (.ref a')) → H a' = some (.lst (cs'.map V.ref)) → ∀ c ∈ cs, c ∉ cs') :=
  I.mxMove (Same.refl _) (fun i b h => ⟨⟨b, (hr i b h).1⟩, (hr i b h).2⟩) (fun i rows h => (hr i _ h).1) (fun _ _ _ _ _ => rfl) (fun i rows a cs _ h1 h2 h3 c hc => ⟨rfl, ((I.mx i rows a cs h1 h2 h3).1.row (I.rowsAt h1 h2 h3) hc).1, id⟩) i rows a cs e1 e2 e3
/-- behind growth -/
theorem Good.grow (I : Good B σ H S ρ g) (e : Gr B H S H' S') (sub : Same S' H') (dr : DrAt B H' S' g') : Good B σ H' S' ρ g' := by
  refine ⟨⟨sub, fun a o h n => e.keep a o (I.keep a o h n) fun x => n (I.own a (fun _ => by rw [h]; simp) x), I.base.trans e.base, fun a h => ?_, fun a h => e.there a (I.there a h), fun hl => none_of e (I.dr.live hl) (I.no hl), dr, fun a h x => I.own a h (e.own a x)⟩, I.len, fun i d h => ?_, I.dw, I.sw, fun i b h => ?_, I.ap, ?_⟩
  · rcases e.new a h with z | z
    · exact I.new a z
    · refine .inr ?_
      cases q : B.H a with
      | none => rfl
      | some o => exact absurd z (I.there a (by rw [q]; simp))
  · obtain ⟨v, h1, h2⟩ := I.sh i d h
    exact ⟨v, h1, h2.mono e.base⟩
  · obtain ⟨a, o, h1, h2, h3, h4, h5, h6⟩ := I.ow i b h
    exact ⟨a, o, h1, none_of e (by rw [h5]; simp) h2, fun x => h3 (e.own a x), h4, e.keep a o h5 h3, h6.mono e.base⟩
  · refine I.mxMove e.base (fun i b h => ⟨⟨b, h⟩, rfl⟩) (fun i rows h => h) (fun i rows a h1 h2 => ?_) fun i rows a cs _ h1 h2 h3 c hc => ?_
    · obtain ⟨a', o, k1, k2, k3, k4, k5, _⟩ := I.ow i _ h1
      have q := addr_of h2 k1
      subst q
      rw [k5]; exact e.keep a o k5 k3
    · obtain ⟨R, _⟩ := I.mx i rows a cs h1 h2 h3
      obtain ⟨k1, k2, k3, k4⟩ := R.row (I.rowsAt h1 h2 h3) hc
      refine ⟨?_, none_of e k4 k1, e.own c⟩
      cases q : H c with
      | none => exact absurd q k4
      | some o => exact e.keep c o q k2
theorem Good.stay (I : Good B σ H S ρ g) {p : Addr} (hp : H p = none) : S p = none := by
  cases q : S p with
  | none => rfl
  | some u => rw [I.sub _ _ q] at hp; cases hp
theorem Good.neA (I : Good B σ H S ρ g) {p : Addr} (hp : H p = none) : B.live = true → B.A ≠ p := fun hl z => I.dr.live hl (by rw [z]; exact hp)
theorem Good.neX (I : Good B σ H S ρ g) {p : Addr} (hp : H p = none) : ¬ Exm B H S p := fun x => I.dr.exm x hp
/-- what is new is none of what may change -/
theorem Good.neX' (I : Good B σ H S ρ g) {p : Addr} {o : HO} {S' : Hp} (hs : Same S S') (hp : H p = none) : ¬ Exm B (upd H p o) S' p := fun x => I.neX hp (x.back hs fun hl => upd_ne (I.neA hp hl))
/-- a new shared object -/
theorem Good.alloc (I : Good B σ H S ρ g) {p : Addr} {o : HO} (hp : H p = none) : Good B σ (upd H p o) (upd S p o) ρ g ∧ Gr B H S (upd H p o) (upd S p o) := by
  have hs : S p = none := I.stay hp
  have e : Gr B H S (upd H p o) (upd S p o) := by
    refine ⟨fun a u h _ => by rw [upd_ne (ne_of_none h hp)]; exact h, fun a u h => by rw [upd_ne (ne_of_none h hs)]; exact h, fun a h => ?_, fun a h => ?_, fun a x => x.back (fun a u h => by rw [upd_ne (ne_of_none h hs)]; exact h) fun hl => upd_ne (I.neA hp hl)⟩
    · by_cases ha : a = p
      · subst ha; exact .inr hp
      · rw [upd_ne ha] at h; exact .inl h
    · by_cases ha : a = p
      · subst ha; rw [upd_same]; simp
      · rw [upd_ne ha]; exact h
  have hne : ∀ a, Exm B H S a → a ≠ p := fun a x z => I.neX hp (by rw [← z]; exact x)
  refine ⟨I.grow e (fun a u h => ?_) (I.dr.mono e.base (fun a x => upd_ne (hne a x)) fun a x z => by rw [upd_ne (hne a x)]; exact z), e⟩
  by_cases ha : a = p
  · subst ha; rw [upd_same] at h ⊢; exact h
  · rw [upd_ne ha] at h ⊢; exact I.sub _ _ h
/-- a new object that is not shared -/
theorem Good.allocO (I : Good B σ H S ρ g) {p : Addr} {o : HO} (hp : H p = none) : Good B σ (upd H p o) S ρ g ∧ Gr B H S (upd H p o) S := by
  have e : Gr B H S (upd H p o) S := by
    refine ⟨fun a u h _ => by rw [upd_ne (ne_of_none h hp)]; exact h, fun a u h => h, fun a h => .inl h, fun a h => ?_, fun a x => x.back (Same.refl _) fun hl => upd_ne (I.neA hp hl)⟩
    by_cases ha : a = p
    · subst ha; rw [upd_same]; simp
    · rw [upd_ne ha]; exact h
  have hne : ∀ a, Exm B H S a → a ≠ p := fun a x z => I.neX hp (by rw [← z]; exact x)
  exact ⟨I.grow e (fun a u h => by rw [upd_ne (ne_of_none (I.sub _ _ h) hp)]; exact I.sub _ _ h) (I.dr.mono e.base (fun a x => upd_ne (hne a x)) fun a _ z => z), e⟩
/-- what is new, and held by nobody, may be changed -/
theorem Good.swapNew (I : Good B σ H S ρ g) (I1 : Good B σ H1 S1 ρ g1) (e : Gr B H S H1 S1) {a : Addr} (o' : HO) (n1 : S1 a = none) (n2 : H a = none) : Good B σ (upd H1 a o') S1 ρ g1 ∧ Gr B H S (upd H1 a o') S1 := by
  have xiff : ∀ {c : Addr}, Exm B (upd H1 a o') S1 c ↔ Exm B H1 S1 c := Exm.upd_iff fun hl z => I.neA n2 hl z.symm
  have nX : ¬ Exm B H1 S1 a := fun x => I.neX n2 (e.own a x)
  have e2 : Gr B H S (upd H1 a o') S1 := ⟨fun c u q n => by rw [upd_ne (ne_of_none q n2)]; exact e.keep c u q n, e.base, e.new, fun c q => by
    by_cases hc : c = a
    · subst hc; rw [upd_same]; simp
    · rw [upd_ne hc]; exact e.there c q, fun c x => e.own c (xiff.mp x)⟩
  exact ⟨I.grow e2 (fun c u q => by rw [upd_ne (ne_of_none q n1)]; exact I1.sub _ _ q) (I1.dr.mono (Same.refl _) (fun c x => upd_ne fun z => nX (by rw [← z]; exact x)) fun _ _ z => z), e2⟩
/-- a thing that nobody else holds becomes shared -/
theorem Good.share (I : Good B σ H S ρ g) (I1 : Good B σ H1 S1 ρ g1) (e : Gr B H S H1 S1) {a : Addr} {o : HO} (n1 : S1 a = none) (n2 : H a = none) (ho : H1 a = some o) : Good B σ H1 (upd S1 a o) ρ g1 ∧ Gr B H S H1 (upd S1 a o) := by
  have sm : Same S1 (upd S1 a o) := fun c u q => by rw [upd_ne (ne_of_none q n1)]; exact q
  have na : B.live = true → B.A ≠ a := I.neA n2
  have bk : ∀ c, Exm B H1 (upd S1 a o) c → Exm B H1 S1 c := fun c x => x.back sm fun _ => rfl
  have hne : ∀ c, Exm B H1 S1 c → c ≠ a := fun c x z => I.neX n2 (by rw [← z]; exact e.own c x)
  refine ⟨⟨⟨fun c u q => ?_, I1.keep, I1.base.trans sm, fun c hc => ?_, I1.there, fun hl => by rw [upd_ne (na hl)]; exact I1.no hl, I1.dr.mono sm (fun _ _ => rfl) fun c x z => by rw [upd_ne (hne c x)]; exact z, fun c h x => I1.own c h (bk c x)⟩, I1.len, fun i d h => ?_, I1.dw, I1.sw, fun i b h => ?_, I1.ap, ?_⟩, ⟨e.keep, e.base.trans sm, fun c hc => ?_, e.there, fun c x => e.own c (bk c x)⟩⟩
  · by_cases hca : c = a
    · subst hca; rw [upd_same] at q; rw [← q]; exact ho
    · rw [upd_ne hca] at q; exact I1.sub _ _ q
  · by_cases hca : c = a
    · subst hca
      refine .inr ?_
      cases q : B.H c with
      | none => rfl
      | some u => exact absurd n2 (I.there c (by rw [q]; simp))
    · rw [upd_ne hca] at hc; exact I1.new c hc
  · obtain ⟨v, h1, h2⟩ := I1.sh i d h
    exact ⟨v, h1, h2.mono sm⟩
  · obtain ⟨c, u, h1, h2, h3, h4, h5, h6⟩ := I1.ow i b h
    obtain ⟨c', u', k1, _, _, _, k5, _⟩ := I.ow i b h
    have ec : c' = c := by
      rw [h1] at k1
      injection k1 with k1
      injection k1 with k1
      injection k1 with k1
      exact k1.symm
    subst ec
    have hca : c' ≠ a := fun z => by rw [z, n2] at k5; cases k5
    exact ⟨c', u, h1, by rw [upd_ne hca]; exact h2, fun x => h3 (bk _ x), h4, h5, h6.mono sm⟩
  · refine I1.mxMove sm (fun i b h => ⟨⟨b, h⟩, rfl⟩) (fun i rows h => h) (fun i b c h1 h2 => rfl) fun i rows c cs _ h1 h2 h3 x hx => ⟨rfl, ?_⟩
    obtain ⟨R, _⟩ := I1.mx i rows c cs h1 h2 h3
    obtain ⟨k1, _⟩ := R.row (I1.rowsAt h1 h2 h3) hx
    have hxa : x ≠ a := fun z => by
      subst z
      obtain ⟨a0, o0, l1, _, l3, _, l5, _⟩ := I.ow i _ h1
      have q := addr_of h2 l1
      subst q
      have l6 := e.keep c o0 l5 l3
      rw [h3] at l6
      rw [← l6] at l5
      obtain ⟨R0, _⟩ := I.mx i rows c cs h1 h2 l5
      exact (R0.row (I.rowsAt h1 h2 l5) hx).2.2.2 n2
    exact ⟨by rw [upd_ne hxa]; exact k1, bk x⟩
  · by_cases hca : c = a
    · subst hca; exact .inr n2
    · rw [upd_ne hca] at hc; exact e.new c hc
end

/-! ### the readings by data -/
abbrev Ex := Nv → G → R PyData
abbrev Te := Nv → G → R Bool
abbrev Ar := Nv → G → R (List PyData)
abbrev Ow := Nv → G → R Ob
section
variable (cls : Nat → Value) (W : WX)
def EO (B : Bs cls) (σ : L2.St) (H S : Hp) (ρ : Nv) (Q : VK) : R PyData → Prop
  | .ok d g' => ∀ v H' S', Good B σ H' S' ρ g' → Gr B H S H' S' → Rp S' v d → Q v H'
  | .ex n g' => ∀ H' S', Good B σ H' S' ρ g' → Gr B H S H' S' → W (cls n) none σ H'
  | .bad => False
def TO (B : Bs cls) (σ : L2.St) (H S : Hp) (ρ : Nv) (Q : Bool → Hp → Prop) : R Bool → Prop
  | .ok b g' => ∀ H' S', Good B σ H' S' ρ g' → Gr B H S H' S' → Q b H'
  | .ex n g' => ∀ H' S', Good B σ H' S' ρ g' → Gr B H S H' S' → W (cls n) none σ H'
  | .bad => False
def AO (B : Bs cls) (σ : L2.St) (H S : Hp) (ρ : Nv) (Q : List V → Hp → Prop) : R (List PyData) → Prop
  | .ok ds g' => ∀ vs H' S', Good B σ H' S' ρ g' → Gr B H S H' S' → Rps S' vs ds → Q vs H'
  | .ex n g' => ∀ H' S', Good B σ H' S' ρ g' → Gr B H S H' S' → W (cls n) none σ H'
  | .bad => False
/-- a new thing that nobody else holds -/
def OO (B : Bs cls) (σ : L2.St) (H S : Hp) (ρ : Nv) (Q : VK) : R Ob → Prop
  | .ok b g' => ∀ a o H' S', Good B σ H' S' ρ g' → Gr B H S H' S' → S' a = none → H a = none → H' a = some o → ObAt S' a b o → Q (.ref a) H'
  | .ex n g' => ∀ H' S', Good B σ H' S' ρ g' → Gr B H S H' S' → W (cls n) none σ H'
  | .bad => False
def tE (f : Ex) : TE := fun σ H Q => ∃ B S ρ g, Good B σ H S ρ g ∧ EO cls W B σ H S ρ Q (f ρ g)
def tT (f : Te) : TT := fun σ H Q => ∃ B S ρ g, Good B σ H S ρ g ∧ TO cls W B σ H S ρ Q (f ρ g)
def tA (f : Ar) : TA := fun σ H Q => ∃ B S ρ g, Good B σ H S ρ g ∧ AO cls W B σ H S ρ Q (f ρ g)
/-- the first argument is the draws, in slot i -/
def tAG (i : Nat) (f : Ar) : TA := fun σ H Q => ∃ B S ρ g, Good B σ H S ρ g ∧ ρ[i]? = some .dr ∧ AO cls W B σ H S ρ (fun vs H' => Q (.ref B.A :: vs) H') (f ρ g)
def tO (f : Ow) : TE := fun σ H Q => ∃ B S ρ g, Good B σ H S ρ g ∧ OO cls W B σ H S ρ Q (f ρ g)
end

section
variable {X : Cx}
theorem PE_imp {e : Expr} {t t' : TE} (h : PE X e t) (hi : ∀ σ H Q, t' σ H Q → t σ H Q) : PE X e t' := ⟨fun pins s σ H Q I q => h.run pins s σ H Q I (hi _ _ _ q)⟩
theorem PT_imp {e : Expr} {t t' : TT} (h : PT X e t) (hi : ∀ σ H Q, t' σ H Q → t σ H Q) : PT X e t' := ⟨fun pins s σ H Q I q => h.run pins s σ H Q I (hi _ _ _ q)⟩
theorem PW_imp {e : Expr} {t t' : TT} (h : PW X e t) (hi : ∀ σ H Q, t' σ H Q → t σ H Q) : PW X e t' := ⟨fun wh pins s σ H Q I q => h.run wh pins s σ H Q I (hi _ _ _ q)⟩
theorem PA_imp {es : List Expr} {t t' : TA} (h : PA X es t) (hi : ∀ σ H Q, t' σ H Q → t σ H Q) : PA X es t' := ⟨fun pos pins s σ H Q I q => h.run pos pins s σ H Q I (hi _ _ _ q)⟩
theorem PS_imp {e : Stmt} {t t' : TS} (h : PS X e t) (hi : ∀ D σ H, t' D σ H → t D σ H) : PS X e t' := ⟨fun pins s σ H D I q => h.run pins s σ H D I (hi _ _ _ q)⟩
theorem PSs_imp {e : List Stmt} {t t' : TS} (h : PSs X e t) (hi : ∀ D σ H, t' D σ H → t D σ H) : PSs X e t' := ⟨fun pins s σ H D I q => h.run pins s σ H D I (hi _ _ _ q)⟩
end

/-! ### the mirrors of expressions -/
@[simp] def constD (d : PyData) : Ex := fun _ g => .ok d g
@[simp] def varD (i : Nat) : Ex := fun ρ g => match ρ[i]? with
  | some (.sh d) => .ok d g
  | _ => .bad
@[simp] def opD (op : PyData → PyData → Option PyData) (a b : Ex) : Ex := fun ρ g => (a ρ g).bind fun x g1 => (b ρ g1).bind fun y g2 => ofO (op x y) g2
@[simp] def unD (op : PyData → Option PyData) (a : Ex) : Ex := fun ρ g => (a ρ g).bind fun x g1 => ofO (op x) g1
@[simp] def nilD : Ar := fun _ g => .ok [] g
@[simp] def consD (a : Ex) (r : Ar) : Ar := fun ρ g => (a ρ g).bind fun x g1 => (r ρ g1).bind fun xs g2 => .ok (x :: xs) g2

section
variable {X : Cx} {cls : Nat → Value} {W : WX} {pos : Pos}

/-- one part behind another -/
theorem EO_bind {B : Bs cls} {σ : L2.St} {H S : Hp} {ρ : Nv} {Q : VK} {α : Type} {r : R α} {f : α → G → R PyData} (P : α → Hp → Hp → G → Prop)
    (h : EO cls W B σ H S ρ Q (r.bind f)) : match r with
    | .ok a g => EO cls W B σ H S ρ Q (f a g)
    | .ex n g => ∀ H' S', Good B σ H' S' ρ g → Gr B H S H' S' → W (cls n) none σ H'
    | .bad => False := by
  cases r with
  | ok a g => exact h
  | ex n g => exact h
  | bad => exact h

theorem EO_gr {B : Bs cls} {σ : L2.St} {H S H1 S1 : Hp} {ρ : Nv} {Q : VK} {r : R PyData} (e : Gr B H S H1 S1) (h : EO cls W B σ H S ρ Q r) : EO cls W B σ H1 S1 ρ Q r := by
  cases r with
  | ok a g => exact fun v H' S' I u d => h v H' S' I (e.trans u) d
  | ex n g => exact fun H' S' I u => h H' S' I (e.trans u)
  | bad => exact h
theorem TO_gr {B : Bs cls} {σ : L2.St} {H S H1 S1 : Hp} {ρ : Nv} {Q : Bool → Hp → Prop} {r : R Bool} (e : Gr B H S H1 S1) (h : TO cls W B σ H S ρ Q r) : TO cls W B σ H1 S1 ρ Q r := by
  cases r with
  | ok a g => exact fun H' S' I u => h H' S' I (e.trans u)
  | ex n g => exact fun H' S' I u => h H' S' I (e.trans u)
  | bad => exact h
theorem AO_gr {B : Bs cls} {σ : L2.St} {H S H1 S1 : Hp} {ρ : Nv} {Q : List V → Hp → Prop} {r : R (List PyData)} (e : Gr B H S H1 S1) (h : AO cls W B σ H S ρ Q r) : AO cls W B σ H1 S1 ρ Q r := by
  cases r with
  | ok a g => exact fun v H' S' I u d => h v H' S' I (e.trans u) d
  | ex n g => exact fun H' S' I u => h H' S' I (e.trans u)
  | bad => exact h
theorem OO_gr {B : Bs cls} {σ : L2.St} {H S H1 S1 : Hp} {ρ : Nv} {Q : VK} {r : R Ob} (e : Gr B H S H1 S1) (h : OO cls W B σ H S ρ Q r) : OO cls W B σ H1 S1 ρ Q r := by
  cases r with
  | ok a g => exact fun v o H' S' I u n1 n2 d f => h v o H' S' I (e.trans u) n1 (none_back e n2) d f
  | ex n g => exact fun H' S' I u => h H' S' I (e.trans u)
  | bad => exact h

theorem pd_const {e : Expr} {v : V} {d : PyData} (he : PE X e (tC v)) (r : ∀ S, Rp S v d) : PE X e (tE cls W (constD d)) :=
  PE_imp he fun σ H Q ⟨B, S, ρ, g, I, h⟩ => h v H S I .refl (r S)
theorem pd_int {i j pos} : PE X (.Constant (.int i) j pos) (tE cls W (constD (.int i))) := pd_const pe_int fun _ => .int i
theorem pd_bl {i j pos} : PE X (.Constant (.bool i) j pos) (tE cls W (constD (.bool i))) := pd_const pe_bl fun _ => .bl i
theorem pd_non {j pos} : PE X (.Constant .none j pos) (tE cls W (constD .none)) := pd_const pe_non fun _ => .non
theorem pd_str {x j pos} : PE X (.Constant (.str x) j pos) (tE cls W (constD (.str x))) := pd_const pe_str fun _ => .str x
theorem pd_globI {x : Str} {i : Int} (hm : ∃ t, X.mg x = some (.int i t)) (hg : Gl X x := by rfl) (hd : (x == ("__debug__" : Str)) = false := by decide) : PE X (.Name x pos) (tE cls W (constD (.int i))) := by
  obtain ⟨t, hm⟩ := hm
  exact pd_const (v := .int i) (pe_glob hg hm ⟨t, rfl⟩ hd) fun _ => .int i
theorem pd_var (i : Nat) {x : Str} (hN : X.N[i]? = some x := by rfl) (hv : Vis X.env.scope x := by first | exact Or.inl rfl | exact Or.inr (Or.inl rfl) | exact Or.inr (Or.inr rfl)) (hd : (x == ("__debug__" : Str)) = false := by decide)
    (hcd : (x == ("__classdict__" : Str)) = false := by decide) : PE X (.Name x pos) (tE cls W (varD i)) :=
  PE_imp (pe_var hN hv hd hcd) fun σ H Q ⟨B, S, ρ, g, I, h⟩ => by
    unfold varD at h
    cases e : ρ[i]? with
    | none => rw [e] at h; exact False.elim h
    | some z =>
      rw [e] at h
      cases z with
      | sh d =>
        obtain ⟨v, h1, h2⟩ := I.sh i d e
        exact ⟨v, h1, h v H S I .refl h2⟩
      | no => exact False.elim h
      | ow _ => exact False.elim h
      | dx => exact False.elim h
      | sc => exact False.elim h

/-- what an operator's rule must say of data -/
def Spec2 (r : R2) (op : PyData → PyData → Option PyData) : Prop := ∀ (cls : Nat → Value) (B : Bs cls) (σ : L2.St) (H S : Hp) (ρ : Nv) (g : G) (x y d : PyData) (v u : V) (Q : VK), op x y = some d → Good B σ H S ρ g → Rp S v x → Rp S u y →
  (∀ w H' S', Good B σ H' S' ρ g → Gr B H S H' S' → Rp S' w d → Q w H') → r v u H Q
theorem op_of {r : R2} {op : PyData → PyData → Option PyData} {fa fb : Ex} (sp : Spec2 r op) (σ : L2.St) (H : Hp) (Q : VK) (h : tE cls W (opD op fa fb) σ H Q) : tOp r (tE cls W fa) (tE cls W fb) σ H Q := by
  obtain ⟨B, S, ρ, g, I, h⟩ := h
  unfold opD at h
  refine ⟨B, S, ρ, g, I, ?_⟩
  cases ea : fa ρ g with
  | bad => rw [ea] at h; exact h
  | ex n g1 => rw [ea] at h; exact h
  | ok x g1 =>
    rw [ea] at h
    intro v H1 S1 I1 e1 r1
    refine ⟨B, S1, ρ, g1, I1, ?_⟩
    have h' := EO_gr e1 h
    simp only [R.bind_ok] at h'
    cases eb : fb ρ g1 with
    | bad => rw [eb] at h'; exact h'
    | ex n g2 => rw [eb] at h'; exact h'
    | ok y g2 =>
      rw [eb] at h'
      simp only [R.bind_ok] at h'
      intro u H2 S2 I2 e2 r2
      have h2 := EO_gr e2 h'
      cases eo : op x y with
      | none => rw [eo] at h2; exact False.elim h2
      | some d =>
        rw [eo] at h2
        exact sp _ B σ H2 S2 ρ g2 x y d v u Q eo I2 (r1.mono e2.base) r2 h2
theorem pd_bin {a b : Expr} {op : Operator} {r : R2} {o : PyData → PyData → Option PyData} {fa fb : Ex} (ho : OpR X (binaryOp op) r) (sp : Spec2 r o) (ha : PE X a (tE cls W fa)) (hb : PE X b (tE cls W fb)) :
    PE X (.BinOp a op b pos) (tE cls W (opD o fa fb)) := PE_imp (pe_op ho ha hb) (op_of sp)
theorem pd_cmpO {a b : Expr} {op : CmpOp} {r : R2} {o : PyData → PyData → Option PyData} {fa fb : Ex} (ho : OpR X (compareOp op) r) (sp : Spec2 r o) (ha : PE X a (tE cls W fa)) (hb : PE X b (tE cls W fb)) (hm : behindInMarks op b = false) :
    PE X (.Compare a [op] [b] pos) (tE cls W (opD o fa fb)) := PE_imp (pe_cmpR ho ha hb hm) (op_of sp)
/-- a value's truth -/
@[simp] def truD : PyData → Option Bool
  | .none => some false
  | .bool b => some b
  | .int i => some (i != 0)
  | .list ds => some (!ds.isEmpty)
  | .tuple ds => some (!ds.isEmpty)
  | _ => none
@[simp] def boolD (f : Ex) : Te := fun ρ g => (f ρ g).bind fun d g1 => match d with
  | .bool b => .ok b g1
  | _ => .bad
@[simp] def truthD (f : Ex) : Te := fun ρ g => (f ρ g).bind fun d g1 => ofO (truD d) g1
theorem boolD_of {f : Ex} (σ : L2.St) (H : Hp) (Q : Bool → Hp → Prop) (h : tT cls W (boolD f) σ H Q) : tE cls W f σ H (fun x H' => ∃ k, x = .bl k ∧ Q k H') := by
  obtain ⟨B, S, ρ, g, I, h⟩ := h
  unfold boolD at h
  refine ⟨B, S, ρ, g, I, ?_⟩
  cases ea : f ρ g with
  | bad => rw [ea] at h; exact h
  | ex n g1 => rw [ea] at h; exact h
  | ok x g1 =>
    rw [ea] at h
    intro v H1 S1 I1 e1 r1
    cases r1 with
    | bl b => exact ⟨b, rfl, h H1 S1 I1 e1⟩
    | non => exact False.elim h
    | int i => exact False.elim h
    | str i => exact False.elim h
    | lst _ _ => exact False.elim h
    | tup _ _ => exact False.elim h
    | dic _ _ => exact False.elim h
    | dicN _ _ => exact False.elim h
theorem ptd_cmpO {a b : Expr} {op : CmpOp} {r : R2} {o : PyData → PyData → Option PyData} {fa fb : Ex} (ho : OpR X (compareOp op) r) (sp : Spec2 r o) (ha : PE X a (tE cls W fa)) (hb : PE X b (tE cls W fb)) (hm : behindInMarks op b = false) :
    PT X (.Compare a [op] [b] pos) (tT cls W (boolD (opD o fa fb))) := PT_imp (pt_cmpR ho ha hb hm) fun σ H Q h => op_of sp σ H _ (boolD_of σ H Q h)
theorem Rps.isEmpty {S : Hp} {vs : List V} {ds : List PyData} (r : Rps S vs ds) : vs.isEmpty = ds.isEmpty := by
  cases r <;> rfl
theorem truV_of {K : PySem.W.Frag} {S H : Hp} {v : V} {d : PyData} {k : Bool} (r : Rp S v d) (s : Same S H) (e : truD d = some k) : TruV K v H k := by
  cases r with
  | non => exact (Option.some.inj e).symm
  | bl b => exact (Option.some.inj e).symm
  | int i => exact (Option.some.inj e).symm
  | str x => cases e
  | lst h q => exact .inl ⟨_, .of (s _ _ h), by rw [q.isEmpty]; exact (Option.some.inj e).symm⟩
  | tup h q => exact .inr (.inl ⟨_, .of (s _ _ h), by rw [q.isEmpty]; exact (Option.some.inj e).symm⟩)
  | dic h q => cases e
  | dicN h q => cases e
theorem truthD_of {K : PySem.W.Frag} {f : Ex} (σ : L2.St) (H : Hp) (Q : Bool → Hp → Prop) (h : tT cls W (truthD f) σ H Q) : tE cls W f σ H (fun x H' => ∃ k, TruV K x H' k ∧ Q k H') := by
  obtain ⟨B, S, ρ, g, I, h⟩ := h
  unfold truthD at h
  refine ⟨B, S, ρ, g, I, ?_⟩
  cases ea : f ρ g with
  | bad => rw [ea] at h; exact h
  | ex n g1 => rw [ea] at h; exact h
  | ok x g1 =>
    rw [ea] at h
    intro v H1 S1 I1 e1 r1
    simp only [R.bind_ok] at h
    cases et : truD x with
    | none => rw [et] at h; exact False.elim h
    | some b =>
      rw [et] at h
      exact ⟨b, truV_of r1 I1.sub et, h H1 S1 I1 e1⟩
theorem ptd_val {a : Expr} {f : Ex} (ha : PE X a (tE cls W f)) (he : ∀ whole, isTrue a X.env whole = (do let v ← whole; standAt a.pos; holding [v] (truthy v)) := by intro _; rfl) : PT X a (tT cls W (truthD f)) :=
  PT_imp (pt_truth ha he) fun σ H Q h => truthD_of σ H Q h

/-! ### and, or, not -/
@[simp] def andT (a b : Te) : Te := fun ρ g => (a ρ g).bind fun x g1 => if x = true then b ρ g1 else .ok false g1
@[simp] def orT (a b : Te) : Te := fun ρ g => (a ρ g).bind fun x g1 => if x = true then .ok true g1 else b ρ g1
@[simp] def notT (a : Te) : Te := fun ρ g => (a ρ g).bind fun x g1 => .ok (!x) g1
variable {a b : Expr} {rest : List Expr} {fa fb : Te}
theorem pwd_and1 (ha : PT X a (tT cls W fa)) : PW X (.BoolOp .And [a] pos) (tT cls W fa) := pw_and1 ha
theorem pwd_or1 (ha : PT X a (tT cls W fa)) : PW X (.BoolOp .Or [a] pos) (tT cls W fa) := pw_or1 ha
theorem pwd_and (ha : PT X a (tT cls W fa)) (hb : PW X (.BoolOp .And (b :: rest) pos) (tT cls W fb)) : PW X (.BoolOp .And (a :: b :: rest) pos) (tT cls W (andT fa fb)) :=
  PW_imp (pw_and ha hb) fun σ H Q ⟨B, S, ρ, g, I, h⟩ => by
    unfold andT at h
    refine ⟨B, S, ρ, g, I, ?_⟩
    cases ea : fa ρ g with
    | bad => rw [ea] at h; exact h
    | ex n g1 => rw [ea] at h; exact h
    | ok x g1 =>
      rw [ea] at h
      intro H1 S1 I1 e1
      cases x with
      | true => exact ⟨B, S1, ρ, g1, I1, TO_gr e1 h⟩
      | false => exact h H1 S1 I1 e1
theorem pwd_or (ha : PT X a (tT cls W fa)) (hb : PW X (.BoolOp .Or (b :: rest) pos) (tT cls W fb)) : PW X (.BoolOp .Or (a :: b :: rest) pos) (tT cls W (orT fa fb)) :=
  PW_imp (pw_or ha hb) fun σ H Q ⟨B, S, ρ, g, I, h⟩ => by
    unfold orT at h
    refine ⟨B, S, ρ, g, I, ?_⟩
    cases ea : fa ρ g with
    | bad => rw [ea] at h; exact h
    | ex n g1 => rw [ea] at h; exact h
    | ok x g1 =>
      rw [ea] at h
      intro H1 S1 I1 e1
      cases x with
      | false => exact ⟨B, S1, ρ, g1, I1, TO_gr e1 h⟩
      | true => exact h H1 S1 I1 e1
theorem ptd_not (ha : PT X a (tT cls W fa)) : PT X (.UnaryOp .Not a pos) (tT cls W (notT fa)) :=
  PT_imp (pt_not ha) fun σ H Q ⟨B, S, ρ, g, I, h⟩ => by
    unfold notT at h
    refine ⟨B, S, ρ, g, I, ?_⟩
    cases ea : fa ρ g with
    | bad => rw [ea] at h; exact h
    | ex n g1 => rw [ea] at h; exact h
    | ok x g1 => rw [ea] at h; exact h
/-- as values -/
@[simp] def andV (a b : Ex) : Ex := fun ρ g => (a ρ g).bind fun x g1 => (ofO (truD x) g1).bind fun k g2 => if k = true then b ρ g2 else .ok x g2
@[simp] def orV (a b : Ex) : Ex := fun ρ g => (a ρ g).bind fun x g1 => (ofO (truD x) g1).bind fun k g2 => if k = true then .ok x g2 else b ρ g2
@[simp] def notV (a : Ex) : Ex := fun ρ g => (a ρ g).bind fun x g1 => (ofO (truD x) g1).bind fun k g2 => .ok (.bool (!k)) g2
variable {va vb : Ex}
theorem pd_one {op} (h : PE X a (tE cls W va)) : PE X (.BoolOp op [a] pos) (tE cls W va) := pe_one h
theorem pd_and (ha : PE X a (tE cls W va)) (hb : PE X (.BoolOp .And (b :: rest) pos) (tE cls W vb)) : PE X (.BoolOp .And (a :: b :: rest) pos) (tE cls W (andV va vb)) :=
  PE_imp (pe_andT ha hb) fun σ H Q ⟨B, S, ρ, g, I, h⟩ => by
    unfold andV at h
    refine ⟨B, S, ρ, g, I, ?_⟩
    cases ea : va ρ g with
    | bad => rw [ea] at h; exact h
    | ex n g1 => rw [ea] at h; exact h
    | ok x g1 =>
      rw [ea] at h
      intro v H1 S1 I1 e1 r1
      simp only [R.bind_ok] at h
      cases et : truD x with
      | none => rw [et] at h; exact False.elim h
      | some k =>
        rw [et] at h
        refine ⟨k, truV_of r1 I1.sub et, ?_⟩
        cases k with
        | true => exact ⟨B, S1, ρ, g1, I1, EO_gr e1 h⟩
        | false => exact h v H1 S1 I1 e1 r1
theorem pd_or (ha : PE X a (tE cls W va)) (hb : PE X (.BoolOp .Or (b :: rest) pos) (tE cls W vb)) : PE X (.BoolOp .Or (a :: b :: rest) pos) (tE cls W (orV va vb)) :=
  PE_imp (pe_orT ha hb) fun σ H Q ⟨B, S, ρ, g, I, h⟩ => by
    unfold orV at h
    refine ⟨B, S, ρ, g, I, ?_⟩
    cases ea : va ρ g with
    | bad => rw [ea] at h; exact h
    | ex n g1 => rw [ea] at h; exact h
    | ok x g1 =>
      rw [ea] at h
      intro v H1 S1 I1 e1 r1
      simp only [R.bind_ok] at h
      cases et : truD x with
      | none => rw [et] at h; exact False.elim h
      | some k =>
        rw [et] at h
        refine ⟨k, truV_of r1 I1.sub et, ?_⟩
        cases k with
        | false => exact ⟨B, S1, ρ, g1, I1, EO_gr e1 h⟩
        | true => exact h v H1 S1 I1 e1 r1
theorem pd_not (ha : PE X a (tE cls W va)) : PE X (.UnaryOp .Not a pos) (tE cls W (notV va)) :=
  PE_imp (pe_notT ha) fun σ H Q ⟨B, S, ρ, g, I, h⟩ => by
    unfold notV at h
    refine ⟨B, S, ρ, g, I, ?_⟩
    cases ea : va ρ g with
    | bad => rw [ea] at h; exact h
    | ex n g1 => rw [ea] at h; exact h
    | ok x g1 =>
      rw [ea] at h
      intro v H1 S1 I1 e1 r1
      simp only [R.bind_ok] at h
      cases et : truD x with
      | none => rw [et] at h; exact False.elim h
      | some k =>
        rw [et] at h
        exact ⟨k, truV_of r1 I1.sub et, h _ H1 S1 I1 e1 (.bl _)⟩
@[simp] def ifD (t : Te) (a b : Ex) : Ex := fun ρ g => (t ρ g).bind fun k g1 => if k = true then a ρ g1 else b ρ g1
theorem pd_if {c : Expr} (hc : PT X c (tT cls W fa)) (ha : PE X a (tE cls W va)) (hb : PE X b (tE cls W vb)) : PE X (.IfExp c a b pos) (tE cls W (ifD fa va vb)) :=
  PE_imp (pe_ifExp hc ha hb) fun σ H Q ⟨B, S, ρ, g, I, h⟩ => by
    unfold ifD at h
    refine ⟨B, S, ρ, g, I, ?_⟩
    cases ea : fa ρ g with
    | bad => rw [ea] at h; exact h
    | ex n g1 => rw [ea] at h; exact h
    | ok k g1 =>
      rw [ea] at h
      intro H1 S1 I1 e1
      cases k with
      | true => exact ⟨B, S1, ρ, g1, I1, EO_gr e1 h⟩
      | false => exact ⟨B, S1, ρ, g1, I1, EO_gr e1 h⟩

/-! ### argument lists, displays -/
variable {es : List Expr} {e : Expr} {ra : Ar}
theorem pad_nil : PA X [] (tA cls W nilD) := PA_imp pa_nil fun σ H Q ⟨B, S, ρ, g, I, h⟩ => h [] H S I .refl .nil
theorem consD_of (σ : L2.St) (H : Hp) (Q : List V → Hp → Prop) (h : tA cls W (consD va ra) σ H Q) : tCons (tE cls W va) (tA cls W ra) σ H Q := by
  obtain ⟨B, S, ρ, g, I, h⟩ := h
  unfold consD at h
  refine ⟨B, S, ρ, g, I, ?_⟩
  cases ea : va ρ g with
  | bad => rw [ea] at h; exact h
  | ex n g1 => rw [ea] at h; exact h
  | ok x g1 =>
    rw [ea] at h
    intro v H1 S1 I1 e1 r1
    refine ⟨B, S1, ρ, g1, I1, ?_⟩
    have h' := AO_gr e1 h
    simp only [R.bind_ok] at h'
    cases eb : ra ρ g1 with
    | bad => rw [eb] at h'; exact h'
    | ex n g2 => rw [eb] at h'; exact h'
    | ok y g2 =>
      rw [eb] at h'
      intro u H2 S2 I2 e2 r2
      exact h' (v :: u) H2 S2 I2 e2 (.cons (r1.mono e2.base) r2)
theorem pad_cons (ha : PE X e (tE cls W va)) (hr : PA X es (tA cls W ra)) (hs : starEach (e :: es) X.env = (false, eval e X.env) :: starEach es X.env := by rfl) : PA X (e :: es) (tA cls W (consD va ra)) :=
  PA_imp (pa_cons ha hr hs) consD_of
@[simp] def tupD (r : Ar) : Ex := fun ρ g => (r ρ g).bind fun ds g1 => if ds.length ≤ 1000 then .ok (.tuple ds) g1 else .bad
theorem line1000 {n : Nat} (h : n ≤ 1000) : n ≤ sizeLine := Nat.le_of_lt (small1000 h)
theorem pd_tup {x1} (h : PA X es (tA cls W ra)) : PE X (.Tuple es x1 pos) (tE cls W (tupD ra)) :=
  PE_imp (pe_tup h) fun σ H Q ⟨B, S, ρ, g, I, h⟩ => by
    unfold tupD at h
    refine ⟨B, S, ρ, g, I, ?_⟩
    cases ea : ra ρ g with
    | bad => rw [ea] at h; exact h
    | ex n g1 => rw [ea] at h; exact h
    | ok ds g1 =>
      rw [ea] at h
      intro vs H1 S1 I1 e1 r1
      simp only [R.bind_ok] at h
      by_cases hz : ds.length ≤ 1000
      · rw [if_pos hz] at h
        refine ⟨line1000 (by rw [r1.length]; exact hz), fun p hp => ?_⟩
        obtain ⟨I2, e2⟩ := I1.alloc (o := .tup vs) hp
        exact h _ _ _ I2 (e1.trans e2) (.tup upd_same (r1.mono e2.base))
      · rw [if_neg hz] at h
        exact False.elim h
@[simp] def lstO (r : Ar) : Ow := fun ρ g => (r ρ g).bind fun ds g1 => if ds.length ≤ 1000 then .ok (.lst ds) g1 else .bad
theorem po_lst (h : PA X es (tA cls W ra)) : PE X (.List es pos) (tO cls W (lstO ra)) :=
  PE_imp (pe_lst h) fun σ H Q ⟨B, S, ρ, g, I, h⟩ => by
    unfold lstO at h
    refine ⟨B, S, ρ, g, I, ?_⟩
    cases ea : ra ρ g with
    | bad => rw [ea] at h; exact h
    | ex n g1 => rw [ea] at h; exact h
    | ok ds g1 =>
      rw [ea] at h
      intro vs H1 S1 I1 e1 r1
      simp only [R.bind_ok] at h
      by_cases hz : ds.length ≤ 1000
      · rw [if_pos hz] at h
        refine ⟨line1000 (by rw [r1.length]; exact hz), fun p hp => ?_⟩
        obtain ⟨I2, e2⟩ := I1.allocO (o := .lst vs) hp
        exact h p (.lst vs) _ _ I2 (e1.trans e2) (I1.stay hp) (none_back e1 hp) upd_same (.lst r1)
      · rw [if_neg hz] at h
        exact False.elim h
/-- a new thing becomes a datum -/
@[simp] def shareO (f : Ow) : Ex := fun ρ g => (f ρ g).bind fun b g1 => match b with
  | .lst ds => .ok (.list ds) g1
  | _ => .bad
theorem pd_share {f : Ow} (h : PE X e (tO cls W f)) : PE X e (tE cls W (shareO f)) :=
  PE_imp h fun σ H Q ⟨B, S, ρ, g, I, h⟩ => by
    unfold shareO at h
    refine ⟨B, S, ρ, g, I, ?_⟩
    cases ea : f ρ g with
    | bad => rw [ea] at h; exact h
    | ex n g1 => rw [ea] at h; exact h
    | ok b g1 =>
      rw [ea] at h
      intro a o H1 S1 I1 e1 n1 n2 ho hb
      obtain ⟨I2, e2⟩ := I.share I1 e1 n1 n2 ho
      cases hb with
      | dk _ => exact False.elim h
      | dt _ => exact False.elim h
      | mat _ => exact False.elim h
      | fz _ => exact False.elim h
      | nd _ => exact False.elim h
      | fn _ => exact False.elim h
      | lst r => exact h _ _ _ I2 e2 (.lst upd_same (r.mono fun c u q => by rw [upd_ne (ne_of_none q n1)]; exact q))
end
end DL

set_option Elab.async false
set_option linter.all false
set_option maxRecDepth 100000
set_option maxHeartbeats 400000
namespace DL
open PySem PySem.Spec PyProof.Rows L2
variable {cls : Nat → Value}

/-! ### operators by data -/
def big : Nat := 1000000
theorem big_line {n : Nat} (h : n ≤ big) : n ≤ sizeLine := Nat.le_trans h (by rw [sizeLine_eq]; decide)
theorem big_lt {n : Nat} (h : n < big) : n < sizeLine := Nat.lt_of_lt_of_le h (by rw [sizeLine_eq]; decide)
@[simp] def addD : PyData → PyData → Option PyData
  | .int i, .int j => some (.int (i + j))
  | .tuple xs, .tuple ys => if xs.length + ys.length ≤ big then some (.tuple (xs ++ ys)) else none
  | .list xs, .list ys => if xs.length + ys.length ≤ big then some (.list (xs ++ ys)) else none
  | _, _ => none
@[simp] def subD : PyData → PyData → Option PyData
  | .int i, .int j => some (.int (i - j))
  | _, _ => none
@[simp] def mulD : PyData → PyData → Option PyData
  | .int i, .int j => if (-(2 ^ 64) < i ∧ i < 2 ^ 64) ∨ (-(2 ^ 64) < j ∧ j < 2 ^ 64) then some (.int (i * j)) else none
  | .tuple xs, .int k => if k = 1 then some (.tuple xs) else if xs ≠ [] ∧ 2 ≤ k ∧ k ≤ 1000 ∧ xs.length ≤ 1000 then some (.tuple (List.replicate k.toNat xs).flatten) else none
  | .list xs, .int k => if -1000000 ≤ k ∧ k ≤ 1000000 ∧ xs.length * k.toNat ≤ big then some (.list (List.replicate k.toNat xs).flatten) else none
  | _, _ => none
@[simp] def fdivD : PyData → PyData → Option PyData
  | .int i, .int j => if 0 < j ∧ j < 1073741824 then some (.int (i / j)) else none
  | _, _ => none
@[simp] def modD : PyData → PyData → Option PyData
  | .int i, .int j => if 0 < j then some (.int (i % j)) else none
  | _, _ => none
@[simp] def powD : PyData → PyData → Option PyData
  | .int i, .int j => if 0 ≤ j ∧ j ≤ 1000000 ∧ i.natAbs < 2 ^ 64 then some (.int (i ^ j.toNat)) else none
  | _, _ => none
@[simp] def cmpD (p : Int → Int → Bool) : PyData → PyData → Option PyData
  | .int i, .int j => some (.bool (p i j))
  | _, _ => none
def eqD : PyData → PyData → Option PyData
  | .int i, .int j => some (.bool (decide (i = j)))
  | .none, .int _ => some (.bool false)
  | .int _, .none => some (.bool false)
  | .none, .none => some (.bool true)
  | .str i, .str j => some (.bool (decide (i = j)))
  | .bool i, .bool j => some (.bool (decide (i = j)))
  | x, y => if SeqAt.shaped x = true ∧ SeqAt.shaped y = true then some (.bool (PyData.eqv x y)) else none
def neD (x y : PyData) : Option PyData := match eqD x y with
  | some (.bool b) => some (.bool (!b))
  | _ => none
def inD : PyData → PyData → Option PyData
  | d, .list ds => if SeqAt.shaped d = true ∧ SeqAt.shaped (.list ds) = true then some (.bool (ds.any fun z => PyData.eqv z d)) else none
  | d, .tuple ds => if SeqAt.shaped d = true ∧ SeqAt.shaped (.tuple ds) = true then some (.bool (ds.any fun z => PyData.eqv z d)) else none
  | _, _ => none
/-- within a list or a tuple -/
def rInC (K : PySem.W.Frag) : R2 := fun x y H Q => ∃ d ds, Dp K H x d ∧ ((Dp K H y (.list ds) ∧ SeqAt.shaped (.list ds) = true) ∨ (Dp K H y (.tuple ds) ∧ SeqAt.shaped (.tuple ds) = true)) ∧ SeqAt.shaped d = true ∧ Q (.bl (ds.any fun z => PyData.eqv z d)) H
def rNotInC (K : PySem.W.Frag) : R2 := fun x y H Q => ∃ d ds, Dp K H x d ∧ ((Dp K H y (.list ds) ∧ SeqAt.shaped (.list ds) = true) ∨ (Dp K H y (.tuple ds) ∧ SeqAt.shaped (.tuple ds) = true)) ∧ SeqAt.shaped d = true ∧ Q (.bl (!ds.any fun z => PyData.eqv z d)) H
section
variable {X : Cx}
theorem op_inC (hu : X.A.units + 65 < cLine) : OpR X (compareOp .In) (rInC X.K) := by
  intro pins s σ H x y v u Q I rx ry h
  obtain ⟨d, ds, hd, ⟨he, se⟩ | ⟨he, se⟩, sd, q⟩ := h
  · obtain ⟨as, r1⟩ := Dp.reads I d x v hd rx
    obtain ⟨bs, r2⟩ := Dp.reads I (.list ds) y u he ry
    exact SeqAt.in_list_reads r2 r1 (SeqAt.canLay_of_shaped se) (SeqAt.canLay_of_shaped sd) (room_in_shaped sd hu) ⟨.bl _, H, I, rfl, q⟩
  · obtain ⟨as, r1⟩ := Dp.reads I d x v hd rx
    obtain ⟨bs, r2⟩ := Dp.reads I (.tuple ds) y u he ry
    exact SeqAt.in_tuple_reads r2 r1 (SeqAt.canLay_of_shaped se) (SeqAt.canLay_of_shaped sd) (room_in_shaped sd hu) ⟨.bl _, H, I, rfl, q⟩
theorem op_notInC (hu : X.A.units + 65 < cLine) : OpR X (compareOp .NotIn) (rNotInC X.K) := by
  intro pins s σ H x y v u Q I rx ry h
  obtain ⟨d, ds, hd, ⟨he, se⟩ | ⟨he, se⟩, sd, q⟩ := h
  · obtain ⟨as, r1⟩ := Dp.reads I d x v hd rx
    obtain ⟨bs, r2⟩ := Dp.reads I (.list ds) y u he ry
    exact SeqAt.notIn_list_reads r2 r1 (SeqAt.canLay_of_shaped se) (SeqAt.canLay_of_shaped sd) (room_in_shaped sd hu) ⟨.bl _, H, I, rfl, q⟩
  · obtain ⟨as, r1⟩ := Dp.reads I d x v hd rx
    obtain ⟨bs, r2⟩ := Dp.reads I (.tuple ds) y u he ry
    exact SeqAt.notIn_tuple_reads r2 r1 (SeqAt.canLay_of_shaped se) (SeqAt.canLay_of_shaped sd) (room_in_shaped sd hu) ⟨.bl _, H, I, rfl, q⟩
end
def notInD (x y : PyData) : Option PyData := match inD x y with
  | some (.bool b) => some (.bool (!b))
  | _ => none
section
variable {K : PySem.W.Frag}
theorem spec_i {C : Int → Int → Prop} {f : Int → Int → Int} {op : PyData → PyData → Option PyData} (h : ∀ x y d, op x y = some d → ∃ i j, x = .int i ∧ y = .int j ∧ C i j ∧ d = .int (f i j)) : Spec2 (rI C fun i j => .int (f i j)) op := by
  intro _ B σ H S ρ g x y d v u Q e I rx ry k
  obtain ⟨i, j, rfl, rfl, c, rfl⟩ := h x y d e
  cases rx
  cases ry
  exact ⟨i, j, rfl, rfl, c, k _ H S I .refl (.int _)⟩
theorem spec_c {p : Int → Int → Bool} : Spec2 (rI0 fun i j => .bl (p i j)) (cmpD p) := by
  intro _ B σ H S ρ g x y d v u Q e I rx ry k
  cases rx with
  | int i =>
    cases ry with
    | int j =>
      cases e
      exact ⟨i, j, rfl, rfl, k _ H S I .refl (.bl _)⟩
    | _ => cases e
  | _ => cases e
abbrev addR (K : PySem.W.Frag) : R2 := fun x y H Q => (rI0 fun i j => .int (i + j)) x y H Q ∨ (rCatA K x y H Q ∨ rCat x y H Q)
theorem op_addA {X : Cx} : OpR X (binaryOp .Add) (addR X.K) := OpR.or op_add (OpR.or op_catA op_cat)
theorem spec_add : Spec2 (addR K) addD := by
  intro _ B σ H S ρ g x y d v u Q e I rx ry k
  cases rx with
  | int i =>
    cases ry with
    | int j =>
      cases e
      exact .inl ⟨i, j, rfl, rfl, k _ H S I .refl (.int _)⟩
    | _ => cases e
  | @tup a xs ds hx qx =>
    cases ry with
    | @tup b ys es hy qy =>
      unfold addD at e
      by_cases hl : ds.length + es.length ≤ big
      · simp only [if_pos hl] at e
        cases e
        refine .inr (.inl ⟨a, b, xs, ys, rfl, rfl, .of (I.sub _ _ hx), .of (I.sub _ _ hy), big_line (by rw [qx.length, qy.length]; exact hl), fun z => ?_, fun _ z => ?_, fun _ _ p hp => ?_⟩)
        · subst z
          cases qx
          exact k _ H S I .refl (.tup hy qy)
        · subst z
          cases qy
          exact k _ H S I .refl (by rw [List.append_nil]; exact .tup hx qx)
        · obtain ⟨I2, e2⟩ := I.alloc (o := .tup (xs ++ ys)) hp
          exact k _ _ _ I2 e2 (.tup upd_same ((qx.append qy).mono e2.base))
      · simp only [if_neg hl] at e
        cases e
    | _ => cases e
  | @lst a xs ds hx qx =>
    cases ry with
    | @lst b ys es hy qy =>
      unfold addD at e
      by_cases hl : ds.length + es.length ≤ big
      · simp only [if_pos hl] at e
        cases e
        refine .inr (.inr ⟨a, b, xs, ys, rfl, rfl, I.sub _ _ hx, I.sub _ _ hy, big_line (by rw [qx.length, qy.length]; exact hl), fun p hp => ?_⟩)
        obtain ⟨I2, e2⟩ := I.alloc (o := .lst (xs ++ ys)) hp
        exact k _ _ _ I2 e2 (.lst upd_same ((qx.append qy).mono e2.base))
      · simp only [if_neg hl] at e
        cases e
    | _ => cases e
  | _ => cases e
theorem spec_sub : Spec2 (rI0 fun i j => .int (i - j)) subD := by
  intro _ B σ H S ρ g x y d v u Q e I rx ry k
  cases rx with
  | int i =>
    cases ry with
    | int j =>
      cases e
      exact ⟨i, j, rfl, rfl, k _ H S I .refl (.int _)⟩
    | _ => cases e
  | _ => cases e
theorem spec_fdiv : Spec2 (rI CDiv fun i j => .int (i / j)) fdivD := spec_i fun x y d e => by
  unfold fdivD at e
  split at e
  · rename_i i j
    by_cases h : 0 < j ∧ j < 1073741824
    · rw [if_pos h] at e; cases e; exact ⟨i, j, rfl, rfl, h, rfl⟩
    · rw [if_neg h] at e; cases e
  · cases e
theorem spec_mod : Spec2 (rI (fun _ j => 0 < j) fun i j => .int (i % j)) modD := spec_i fun x y d e => by
  unfold modD at e
  split at e
  · rename_i i j
    by_cases h : 0 < j
    · rw [if_pos h] at e; cases e; exact ⟨i, j, rfl, rfl, h, rfl⟩
    · rw [if_neg h] at e; cases e
  · cases e
theorem spec_pow : Spec2 (rI CPow fun i j => .int (i ^ j.toNat)) powD := spec_i fun x y d e => by
  unfold powD at e
  split at e
  · rename_i i j
    by_cases h : 0 ≤ j ∧ j ≤ 1000000 ∧ i.natAbs < 2 ^ 64
    · rw [if_pos h] at e; cases e; exact ⟨i, j, rfl, rfl, h, rfl⟩
    · rw [if_neg h] at e; cases e
  · cases e
theorem tuple_mul1 (l : Addr) (items : Array Value) (n : Nat) (dd : Option Addr) (sl : Array (Option Value)) (u : Tok) :
    Meets (Builtin.«tuple.__mul__» ⟨[.ref l, .int 1 u], []⟩) (fun _ R s => s.heap.get? l = some { cls := .type "tuple", dict := dd, data := .seq items n, slots := sl } ∧ R (.ok (.ret (Value.ref l))) s) :=
  .of_wp fun prog w A R s h => by
    obtain ⟨hp, g, d, tk, os⟩ := s
    obtain ⟨hl, h⟩ := h
    have f1 := AutoSeq1.idx_int
    have c1 : (items.isEmpty || (1 : Int) == 1) = true := by simp
    wp_walk using wpAny_loadPart' hl
    exact ⟨_, rfl, h⟩
/-- a tuple, once -/
def rRepT1 (K : PySem.W.Frag) : R2 := fun x y H Q => ∃ l xs, x = .ref l ∧ y = .int 1 ∧ SqT K H l xs ∧ Q (.ref l) H
theorem op_repT1 {X : Cx} : OpR X (binaryOp .Mult) (rRepT1 X.K) := by
  intro pins s σ H x y v u Q I rx ry h
  obtain ⟨l, xs, rfl, rfl, hT, q⟩ := h
  cases rx
  obtain ⟨t, rfl⟩ := ry
  obtain ⟨its, r, ⟨⟨cls, dd, data, sl⟩, ho, hc, n, hd⟩, hs⟩ := I.tuple hT
  simp only at hc hd
  subst hc hd
  exact wpAny_binaryOp_repeat_ref (T := "tuple") (U := "int") (by decide) ⟨_, ho, rfl⟩ (fun s' => typeIs_int s' 1 t) noFill_tuple_mul F.fills_int_mul F.slot_int_rmul repeat_tuple F.slot_int_index.lookup
    (call_meets F.slot_int_rmul (typeIs_int s 1 t) F.entry_int_rmul (F.args_int_rmul_2 _ _) (int_rmul_tuple 1 t l its.toArray n dd sl)
      ⟨ho, rfl, ⟨_, ho, rfl⟩, call_meets F.slot_tuple_mul ⟨_, ho, rfl⟩ F.entry_tuple_mul (F.args_tuple_mul_2 _ _) (tuple_mul1 l its.toArray n dd sl t) ⟨ho, ⟨.ref l, H, I, rfl, q⟩⟩⟩)
abbrev mulR (K : PySem.W.Frag) : R2 := fun x y H Q => (rI CMul fun i j => .int (i * j)) x y H Q ∨ ((rRepT K x y H Q ∨ rRepT1 K x y H Q) ∨ rRep x y H Q)
theorem op_mulA {X : Cx} : OpR X (binaryOp .Mult) (mulR X.K) := OpR.or op_mul (OpR.or (OpR.or op_repT op_repT1) op_rep)
theorem spec_mul : Spec2 (mulR K) mulD := by
  intro _ B σ H S ρ g x y d v u Q e I rx ry k
  cases rx with
  | int i =>
    cases ry with
    | int j =>
      unfold mulD at e
      by_cases h : (-(2 ^ 64) < i ∧ i < 2 ^ 64) ∨ (-(2 ^ 64) < j ∧ j < 2 ^ 64)
      · simp only [if_pos h] at e; cases e; exact .inl ⟨i, j, rfl, rfl, h, k _ H S I .refl (.int _)⟩
      · simp only [if_neg h] at e; cases e
    | _ => cases e
  | @tup a xs ds hx qx =>
    cases ry with
    | int j =>
      unfold mulD at e
      by_cases h1 : j = 1
      · subst h1
        simp only [if_true] at e
        cases e
        exact .inr (.inl (.inr ⟨a, xs, rfl, rfl, .of (I.sub _ _ hx), k _ H S I .refl (.tup hx qx)⟩))
      · simp only [if_neg h1] at e
        by_cases h : ds ≠ [] ∧ 2 ≤ j ∧ j ≤ 1000 ∧ ds.length ≤ 1000
        · simp only [if_pos h] at e
          cases e
          refine .inr (.inl (.inl ⟨a, j, xs, rfl, rfl, .of (I.sub _ _ hx), fun z => ?_, h.2.1, h.2.2.1, by rw [qx.length]; exact h.2.2.2, fun p hp => ?_⟩))
          · subst z
            cases qx
            exact h.1 rfl
          · obtain ⟨I2, e2⟩ := I.alloc (o := .tup (List.replicate j.toNat xs).flatten) hp
            exact k _ _ _ I2 e2 (.tup upd_same ((qx.flatten _).mono e2.base))
        · simp only [if_neg h] at e; cases e
    | _ => cases e
  | @lst a xs ds hx qx =>
    cases ry with
    | int j =>
      unfold mulD at e
      by_cases h : -1000000 ≤ j ∧ j ≤ 1000000 ∧ ds.length * j.toNat ≤ big
      · simp only [if_pos h] at e
        cases e
        refine .inr (.inr ⟨a, j, xs, rfl, rfl, I.sub _ _ hx, by omega, by omega, big_line (by rw [qx.length]; exact h.2.2), fun p hp => ?_⟩)
        obtain ⟨I2, e2⟩ := I.alloc (o := .lst (List.replicate j.toNat xs).flatten) hp
        exact k _ _ _ I2 e2 (.lst upd_same ((qx.flatten _).mono e2.base))
      · simp only [if_neg h] at e; cases e
    | _ => cases e
  | _ => cases e
abbrev eqR (K : PySem.W.Frag) : R2 := fun x y H Q => rEq x y H Q ∨ rEqD K x y H Q
abbrev neR (K : PySem.W.Frag) : R2 := fun x y H Q => rNe x y H Q ∨ rNeD K x y H Q
theorem eqD_cases {x y d : PyData} (e : eqD x y = some d) : ∃ b, d = .bool b ∧ ((∀ S v u, Rp S v x → Rp S u y → scal v u = true ∧ decide (v = u) = b) ∨ (SeqAt.shaped x = true ∧ SeqAt.shaped y = true ∧ PyData.eqv x y = b)) := by
  unfold eqD at e
  split at e
  · rename_i i j
    cases e
    refine ⟨_, rfl, .inl fun S v u r q => ?_⟩
    cases r; cases q
    exact ⟨rfl, by by_cases h : i = j <;> simp [h]⟩
  · cases e
    refine ⟨_, rfl, .inl fun S v u r q => ?_⟩
    cases r; cases q
    exact ⟨rfl, by simp⟩
  · cases e
    refine ⟨_, rfl, .inl fun S v u r q => ?_⟩
    cases r; cases q
    exact ⟨rfl, by simp⟩
  · cases e
    refine ⟨_, rfl, .inl fun S v u r q => ?_⟩
    cases r; cases q
    exact ⟨rfl, by simp⟩
  · rename_i i j
    cases e
    refine ⟨_, rfl, .inl fun S v u r q => ?_⟩
    cases r; cases q
    exact ⟨rfl, by by_cases h : i = j <;> simp [h]⟩
  · rename_i i j
    cases e
    refine ⟨_, rfl, .inl fun S v u r q => ?_⟩
    cases r; cases q
    exact ⟨rfl, by by_cases h : i = j <;> simp [h]⟩
  · rename_i h1 h2 h3 h4 h5 h6
    by_cases h : SeqAt.shaped x = true ∧ SeqAt.shaped y = true
    · rw [if_pos h] at e; cases e; exact ⟨_, rfl, .inr ⟨h.1, h.2, rfl⟩⟩
    · rw [if_neg h] at e; cases e
theorem spec_eq : Spec2 (eqR K) eqD := by
  intro _ B σ H S ρ g x y d v u Q e I rx ry k
  obtain ⟨b, rfl, h | ⟨h1, h2, h3⟩⟩ := eqD_cases e
  · obtain ⟨h1, h2⟩ := h S v u rx ry
    exact .inl ⟨h1, by rw [h2]; exact k _ H S I .refl (.bl _)⟩
  · exact .inr ⟨x, y, Rp.dp I.sub (SeqAt.canLay_of_shaped h1) rx, Rp.dp I.sub (SeqAt.canLay_of_shaped h2) ry, h1, h2, by rw [h3]; exact k _ H S I .refl (.bl _)⟩
theorem spec_ne : Spec2 (neR K) neD := by
  intro _ B σ H S ρ g x y d v u Q e I rx ry k
  unfold neD at e
  split at e
  · rename_i b he
    cases e
    obtain ⟨b', hb, h⟩ := eqD_cases he
    cases hb
    rcases h with h | ⟨h1, h2, h3⟩
    · obtain ⟨h1, h2⟩ := h S v u rx ry
      exact .inl ⟨h1, by rw [h2]; exact k _ H S I .refl (.bl _)⟩
    · exact .inr ⟨x, y, Rp.dp I.sub (SeqAt.canLay_of_shaped h1) rx, Rp.dp I.sub (SeqAt.canLay_of_shaped h2) ry, h1, h2, by rw [h3]; exact k _ H S I .refl (.bl _)⟩
  · cases e
theorem inD_cases {x y d : PyData} (e : inD x y = some d) : ∃ ds, ((y = .list ds ∧ SeqAt.shaped (.list ds) = true) ∨ (y = .tuple ds ∧ SeqAt.shaped (.tuple ds) = true)) ∧ SeqAt.shaped x = true ∧ d = .bool (ds.any fun z => PyData.eqv z x) := by
  unfold inD at e
  split at e
  · rename_i ds
    by_cases h : SeqAt.shaped x = true ∧ SeqAt.shaped (.list ds) = true
    · rw [if_pos h] at e; cases e; exact ⟨ds, .inl ⟨rfl, h.2⟩, h.1, rfl⟩
    · rw [if_neg h] at e; cases e
  · rename_i ds
    by_cases h : SeqAt.shaped x = true ∧ SeqAt.shaped (.tuple ds) = true
    · rw [if_pos h] at e; cases e; exact ⟨ds, .inr ⟨rfl, h.2⟩, h.1, rfl⟩
    · rw [if_neg h] at e; cases e
  · cases e
theorem spec_in : Spec2 (rInC K) inD := by
  intro _ B σ H S ρ g x y d v u Q e I rx ry k
  obtain ⟨ds, ⟨rfl, h2⟩ | ⟨rfl, h2⟩, h1, rfl⟩ := inD_cases e
  · exact ⟨x, ds, Rp.dp I.sub (SeqAt.canLay_of_shaped h1) rx, .inl ⟨Rp.dp I.sub (SeqAt.canLay_of_shaped h2) ry, h2⟩, h1, k _ H S I .refl (.bl _)⟩
  · exact ⟨x, ds, Rp.dp I.sub (SeqAt.canLay_of_shaped h1) rx, .inr ⟨Rp.dp I.sub (SeqAt.canLay_of_shaped h2) ry, h2⟩, h1, k _ H S I .refl (.bl _)⟩
theorem spec_notIn : Spec2 (rNotInC K) notInD := by
  intro _ B σ H S ρ g x y d v u Q e I rx ry k
  unfold notInD at e
  split at e
  · rename_i b he
    cases e
    obtain ⟨ds, ⟨rfl, h2⟩ | ⟨rfl, h2⟩, h1, h3⟩ := inD_cases he
    · cases h3
      exact ⟨x, ds, Rp.dp I.sub (SeqAt.canLay_of_shaped h1) rx, .inl ⟨Rp.dp I.sub (SeqAt.canLay_of_shaped h2) ry, h2⟩, h1, k _ H S I .refl (.bl _)⟩
    · cases h3
      exact ⟨x, ds, Rp.dp I.sub (SeqAt.canLay_of_shaped h1) rx, .inr ⟨Rp.dp I.sub (SeqAt.canLay_of_shaped h2) ry, h2⟩, h1, k _ H S I .refl (.bl _)⟩
  · cases e
/-- an item -/
def ixD : PyData → PyData → Option PyData
  | .list ds, .int i => atI ds i
  | .tuple ds, .int i => atI ds i
  | _, _ => none
theorem Rps.atI {S : Hp} {vs : List V} {ds : List PyData} {i : Int} {d : PyData} (r : Rps S vs ds) (e : L2.atI ds i = some d) : ∃ v, L2.atI vs i = some v ∧ Rp S v d := by
  unfold L2.atI at e ⊢
  rw [r.length]
  cases h : ixN ds.length i with
  | none => rw [h] at e; cases e
  | some j =>
    rw [h] at e
    exact r.getD (i := j) e
abbrev ixR (K : PySem.W.Frag) : R2 := fun x y H Q => rIxL K x y H Q ∨ rIxT K x y H Q
theorem spec_ix : Spec2 (ixR K) ixD := by
  intro _ B σ H S ρ g x y d v u Q e I rx ry k
  cases rx with
  | @lst a xs ds hx qx =>
    cases ry with
    | int i =>
      obtain ⟨w, e1, r1⟩ := qx.atI (show atI ds i = some d from e)
      exact .inl ⟨a, xs, i, w, rfl, rfl, .of (I.sub _ _ hx), e1, k _ H S I .refl r1⟩
    | _ => cases e
  | @tup a xs ds hx qx =>
    cases ry with
    | int i =>
      obtain ⟨w, e1, r1⟩ := qx.atI (show atI ds i = some d from e)
      exact .inr ⟨a, xs, i, w, rfl, rfl, .of (I.sub _ _ hx), e1, k _ H S I .refl r1⟩
    | _ => cases e
  | _ => cases e
end
section
variable {X : Cx} {cls : Nat → Value} {W : WX} {pos : Pos} {a b c : Expr} {fa fb fc : Ex} {k : Nat}
theorem pd_add (ha : PE X a (tE cls W fa)) (hb : PE X b (tE cls W fb)) : PE X (.BinOp a .Add b pos) (tE cls W (opD addD fa fb)) := pd_bin op_addA spec_add ha hb
theorem pd_sub (ha : PE X a (tE cls W fa)) (hb : PE X b (tE cls W fb)) : PE X (.BinOp a .Sub b pos) (tE cls W (opD subD fa fb)) := pd_bin op_sub spec_sub ha hb
theorem pd_mul (ha : PE X a (tE cls W fa)) (hb : PE X b (tE cls W fb)) : PE X (.BinOp a .Mult b pos) (tE cls W (opD mulD fa fb)) := pd_bin op_mulA spec_mul ha hb
theorem pd_fdiv (ha : PE X a (tE cls W fa)) (hb : PE X b (tE cls W fb)) : PE X (.BinOp a .FloorDiv b pos) (tE cls W (opD fdivD fa fb)) := pd_bin op_fdiv spec_fdiv ha hb
theorem pd_mod (ha : PE X a (tE cls W fa)) (hb : PE X b (tE cls W fb)) : PE X (.BinOp a .Mod b pos) (tE cls W (opD modD fa fb)) := pd_bin op_mod spec_mod ha hb
theorem pd_pow (ha : PE X a (tE cls W fa)) (hb : PE X b (tE cls W fb)) : PE X (.BinOp a .Pow b pos) (tE cls W (opD powD fa fb)) := pd_bin op_pow spec_pow ha hb
theorem pd_ix (ha : PE X a (tE cls W fa)) (hb : PE X b (tE cls W fb)) (hs : PlainIx b := by exact fun _ _ => rfl) : PE X (.Subscript a b pos) (tE cls W (opD ixD fa fb)) := PE_imp (pe_ix (IxR.or ix_list ix_tup) ha hb hs) (op_of spec_ix)
theorem un_negA : UnR X (unaryOp .USub) (rU fun i => .int (-i)) := un_neg
@[simp] def negD : PyData → Option PyData
  | .int i => some (.int (-i))
  | _ => none
def Spec1 (r : V → Hp → VK → Prop) (op : PyData → Option PyData) : Prop := ∀ (cls : Nat → Value) (B : Bs cls) (σ : L2.St) (H S : Hp) (ρ : Nv) (g : G) (x d : PyData) (v : V) (Q : VK), op x = some d → Good B σ H S ρ g → Rp S v x →
  (∀ w H' S', Good B σ H' S' ρ g → Gr B H S H' S' → Rp S' w d → Q w H') → r v H Q
theorem un_of {r : V → Hp → VK → Prop} {op : PyData → Option PyData} (sp : Spec1 r op) (σ : L2.St) (H : Hp) (Q : VK) (h : tE cls W (unD op fa) σ H Q) : (tE cls W fa) σ H fun x H1 => r x H1 Q := by
  obtain ⟨B, S, ρ, g, I, h⟩ := h
  unfold unD at h
  refine ⟨B, S, ρ, g, I, ?_⟩
  cases ea : fa ρ g with
  | bad => rw [ea] at h; exact h
  | ex n g1 => rw [ea] at h; exact h
  | ok x g1 =>
    rw [ea] at h
    intro v H1 S1 I1 e1 r1
    have h' := EO_gr e1 h
    simp only [R.bind_ok] at h'
    cases eo : op x with
    | none => rw [eo] at h'; exact False.elim h'
    | some d =>
      rw [eo] at h'
      exact sp _ B σ H1 S1 ρ g1 x d v Q eo I1 r1 h'
theorem pd_neg (ha : PE X a (tE cls W fa)) : PE X (.UnaryOp .USub a pos) (tE cls W (unD negD fa)) := PE_imp (pe_un un_neg ha) (un_of fun _ B σ H S ρ g x d v Q e I r k => by
  cases r with
  | int i => cases e; exact ⟨i, rfl, k _ H S I .refl (.int _)⟩
  | _ => cases e)
/-! comparisons: the operator's rule and data's, as value and as test -/
structure Cmp (X : Cx) (op : CmpOp) (o : PyData → PyData → Option PyData) : Prop where
  ex : ∃ r, OpR X (compareOp op) r ∧ Spec2 r o
theorem c_lt : Cmp X .Lt (cmpD fun i j => decide (i < j)) := ⟨_, op_lt, spec_c⟩
theorem c_le : Cmp X .LtE (cmpD fun i j => decide (i ≤ j)) := ⟨_, op_le, spec_c⟩
theorem c_gt : Cmp X .Gt (cmpD fun i j => decide (j < i)) := ⟨_, op_gt, spec_c⟩
theorem c_ge : Cmp X .GtE (cmpD fun i j => decide (j ≤ i)) := ⟨_, op_ge, spec_c⟩
theorem hu64 (hr : Room k X.A) : X.A.units + 64 < cLine := hr.units
theorem hu65 (hr : Room k X.A) : X.A.units + 65 < cLine := by have := hr.un; omega
theorem c_eq (hr : Room k X.A) : Cmp X .Eq eqD := ⟨_, OpR.or op_eq (op_eqD (hu64 hr)), spec_eq⟩
theorem c_ne (hr : Room k X.A) : Cmp X .NotEq neD := ⟨_, OpR.or op_ne (op_neD (hu64 hr)), spec_ne⟩
theorem c_in (hr : Room k X.A) : Cmp X .In inD := ⟨_, op_inC (hu65 hr), spec_in⟩
theorem c_notIn (hr : Room k X.A) : Cmp X .NotIn notInD := ⟨_, op_notInC (hu65 hr), spec_notIn⟩
variable {op op' : CmpOp} {o o' : PyData → PyData → Option PyData}
theorem pd_cmp (h : Cmp X op o) (ha : PE X a (tE cls W fa)) (hb : PE X b (tE cls W fb)) (hm : behindInMarks op b = false := by first | exact nomark _ | rfl) : PE X (.Compare a [op] [b] pos) (tE cls W (opD o fa fb)) := by
  obtain ⟨r, h1, h2⟩ := h.ex
  exact pd_cmpO h1 h2 ha hb hm
theorem ptd_cmp (h : Cmp X op o) (ha : PE X a (tE cls W fa)) (hb : PE X b (tE cls W fb)) (hm : behindInMarks op b = false := by first | exact nomark _ | rfl) : PT X (.Compare a [op] [b] pos) (tT cls W (boolD (opD o fa fb))) := by
  obtain ⟨r, h1, h2⟩ := h.ex
  exact ptd_cmpO h1 h2 ha hb hm
/-- a op b op' c -/
@[simp] def chainD (o o' : PyData → PyData → Option PyData) (a b c : Ex) : Ex := fun ρ g => (a ρ g).bind fun x g1 => (b ρ g1).bind fun y g2 => (ofO (o x y) g2).bind fun z g3 => match z with
  | .bool true => (c ρ g3).bind fun w g4 => ofO (o' y w) g4
  | .bool false => .ok (.bool false) g3
  | _ => .bad
theorem chain_of {r r' : R2} (s : Spec2 r o) (s' : Spec2 r' o') (σ : L2.St) (H : Hp) (Q : VK) (h : tE cls W (chainD o o' fa fb fc) σ H Q) : tChain r r' (tE cls W fa) (tE cls W fb) (tE cls W fc) σ H Q := by
  obtain ⟨B, S, ρ, g, I, h⟩ := h
  unfold chainD at h
  refine ⟨B, S, ρ, g, I, ?_⟩
  cases ea : fa ρ g with
  | bad => rw [ea] at h; exact h
  | ex n g1 => rw [ea] at h; exact h
  | ok x g1 =>
    rw [ea] at h
    intro v H1 S1 I1 e1 r1
    refine ⟨B, S1, ρ, g1, I1, ?_⟩
    have h' := EO_gr e1 h
    simp only [R.bind_ok] at h'
    cases eb : fb ρ g1 with
    | bad => rw [eb] at h'; exact h'
    | ex n g2 => rw [eb] at h'; exact h'
    | ok y g2 =>
      rw [eb] at h'
      simp only [R.bind_ok] at h'
      intro u H2 S2 I2 e2 r2
      have h2 := EO_gr e2 h'
      cases eo : o x y with
      | none => rw [eo] at h2; exact False.elim h2
      | some d =>
        rw [eo] at h2
        simp only [ofO_some, R.bind_ok] at h2
        refine s _ B σ H2 S2 ρ g2 x y d v u _ eo I2 (r1.mono e2.base) r2 fun z H3 S3 I3 e3 r3 => ?_
        have h3 := EO_gr e3 h2
        cases r3 with
        | bl t =>
          refine ⟨t, rfl, ?_⟩
          cases t with
          | false => exact h3 _ H3 S3 I3 .refl (.bl _)
          | true =>
            refine ⟨B, S3, ρ, g2, I3, ?_⟩
            simp only at h3
            cases ec : fc ρ g2 with
            | bad => rw [ec] at h3; exact h3
            | ex n g4 => rw [ec] at h3; exact h3
            | ok w g4 =>
              rw [ec] at h3
              simp only [R.bind_ok] at h3
              intro q H4 S4 I4 e4 r4
              have h4 := EO_gr e4 h3
              cases eo' : o' y w with
              | none => rw [eo'] at h4; exact False.elim h4
              | some d' =>
                rw [eo'] at h4
                exact s' _ B σ H4 S4 ρ g4 y w d' u q Q eo' I4 ((r2.mono e3.base).mono e4.base) r4 h4
        | _ => exact False.elim h3
theorem pd_chain (h : Cmp X op o) (h' : Cmp X op' o') (ha : PE X a (tE cls W fa)) (hb : PE X b (tE cls W fb)) (hc : PE X c (tE cls W fc)) (hm : lastMarks [op, op'] [b, c] = false := by with_unfolding_all rfl) :
    PE X (.Compare a [op, op'] [b, c] pos) (tE cls W (chainD o o' fa fb fc)) := by
  obtain ⟨r, h1, h2⟩ := h.ex
  obtain ⟨r', h3, h4⟩ := h'.ex
  exact PE_imp (pe_chain h1 h3 ha hb hc hm) (chain_of h2 h4)
theorem ptd_chain (h : Cmp X op o) (h' : Cmp X op' o') (ha : PE X a (tE cls W fa)) (hb : PE X b (tE cls W fb)) (hc : PE X c (tE cls W fc)) (hm : lastMarks [op, op'] [b, c] = false := by with_unfolding_all rfl) :
    PT X (.Compare a [op, op'] [b, c] pos) (tT cls W (boolD (chainD o o' fa fb fc))) := by
  obtain ⟨r, h1, h2⟩ := h.ex
  obtain ⟨r', h3, h4⟩ := h'.ex
  exact PT_imp (pt_chain h1 h3 ha hb hc hm) fun σ H Q z => chain_of h2 h4 σ H _ (boolD_of σ H Q z)
/-- is None -/
@[simp] def isNoneD : PyData → Option PyData
  | .none => some (.bool true)
  | _ => some (.bool false)
@[simp] def notNoneD : PyData → Option PyData
  | .none => some (.bool false)
  | _ => some (.bool true)
theorem sp_isN : Spec1 (fun x H Q => Q (.bl (decide (x = .non))) H) isNoneD := fun _ B σ H S ρ g x d v Q e I r k => by
  cases r <;> cases e <;> exact k _ H S I .refl (.bl _)
theorem sp_notN : Spec1 (fun x H Q => Q (.bl (!decide (x = .non))) H) notNoneD := fun _ B σ H S ρ g x d v Q e I r k => by
  cases r <;> cases e <;> exact k _ H S I .refl (.bl _)
theorem pd_isN {j p} (ha : PE X a (tE cls W fa)) : PE X (.Compare a [.Is] [.Constant .none j p] pos) (tE cls W (unD isNoneD fa)) := PE_imp (pe_cmp (pc_isN ha)) (un_of sp_isN)
theorem pd_notN {j p} (ha : PE X a (tE cls W fa)) : PE X (.Compare a [.IsNot] [.Constant .none j p] pos) (tE cls W (unD notNoneD fa)) := PE_imp (pe_cmp (pc_notN ha)) (un_of sp_notN)
theorem ptd_isN {j p} (ha : PE X a (tE cls W fa)) : PT X (.Compare a [.Is] [.Constant .none j p] pos) (tT cls W (boolD (unD isNoneD fa))) := PT_imp (pt_cmp (pc_isN ha)) fun σ H Q h => un_of sp_isN σ H _ (boolD_of σ H Q h)
theorem ptd_notN {j p} (ha : PE X a (tE cls W fa)) : PT X (.Compare a [.IsNot] [.Constant .none j p] pos) (tT cls W (boolD (unD notNoneD fa))) := PT_imp (pt_cmp (pc_notN ha)) fun σ H Q h => un_of sp_notN σ H _ (boolD_of σ H Q h)
/-! built-ins of one argument -/
def Spec1c (r : List V → Hp → VK → Prop) (op : PyData → Option PyData) : Prop := Spec1 (fun v H Q => r [v] H Q) op
theorem pd_call1B {x : Str} {p : Pos} {id : String} {r : List V → Hp → VK → Prop} {op : PyData → Option PyData} (hc : CallR X (.builtin id) r) (sp : Spec1c r op) (hm : X.mg x = none) (hv : bootBuiltins x = some (.builtin id)) (ha : PE X a (tE cls W fa)) (hg : Gl X x := by rfl)
    (hn : x ≠ "__name__" := by decide) (hd : (x == ("__debug__" : Str)) = false := by decide) (hs : starEach [a] X.env = (false, eval a X.env) :: starEach [] X.env := by rfl) (hpl : (backTo pos (starEach [] X.env)).any (·.1) = false := by rfl) :
    PE X (.Call (.Name x p) [a] [] pos) (tE cls W (unD op fa)) := PE_imp (pe_callB hc hg hm hv (pa_cons ha pa_nil hs) hn hd hs hpl) (un_of sp)
theorem pd_call1T {x : Str} {p : Pos} {T : String} {r : List V → Hp → VK → Prop} {op : PyData → Option PyData} (hc : CallR X (.type T) r) (sp : Spec1c r op) (hm : X.mg x = none) (hv : bootBuiltins x = some (.type T)) (ha : PE X a (tE cls W fa)) (hg : Gl X x := by rfl)
    (hn : x ≠ "__name__" := by decide) (hd : (x == ("__debug__" : Str)) = false := by decide) (hs : starEach [a] X.env = (false, eval a X.env) :: starEach [] X.env := by rfl) (hpl : (backTo pos (starEach [] X.env)).any (·.1) = false := by rfl) :
    PE X (.Call (.Name x p) [a] [] pos) (tE cls W (unD op fa)) := PE_imp (pe_callTy hc hg hm hv (pa_cons ha pa_nil hs) hn hd hs hpl) (un_of sp)
@[simp] def lenD : PyData → Option PyData
  | .list ds => some (.int ds.length)
  | .tuple ds => some (.int ds.length)
  | _ => none
theorem sp_len {K : PySem.W.Frag} : Spec1c (fun xs H Q => ∃ x n, xs = [x] ∧ LenV K x H n ∧ Q (.int n) H) lenD := fun _ B σ H S ρ g x d v Q e I r k => by
  cases r with
  | lst h q => cases e; exact ⟨_, _, rfl, .inl ⟨_, .of (I.sub _ _ h), rfl⟩, by rw [q.length]; exact k _ H S I .refl (.int _)⟩
  | tup h q => cases e; exact ⟨_, _, rfl, .inr ⟨_, .of (I.sub _ _ h), rfl⟩, by rw [q.length]; exact k _ H S I .refl (.int _)⟩
  | _ => cases e
theorem pd_len {p : Pos} (hm : X.mg "len" = none) (ha : PE X a (tE cls W fa)) (hg : Gl X "len" := by rfl) (hs : starEach [a] X.env = (false, eval a X.env) :: starEach [] X.env := by rfl) : PE X (.Call (.Name "len" p) [a] [] pos) (tE cls W (unD lenD fa)) :=
  pd_call1B call_len sp_len hm boot_len ha hg (by decide) (by decide) hs
@[simp] def tupleD : PyData → Option PyData
  | .list ds => some (.tuple ds)
  | .tuple ds => some (.tuple ds)
  | _ => none
theorem sp_tuple {K : PySem.W.Frag} : Spec1c (fun xs H Q => ∃ p ys, xs = [V.ref p] ∧ ((SqL K H p ys ∧ ∀ l, H l = none → Q (V.ref l) (upd H l (.tup ys))) ∨ (SqT K H p ys ∧ Q (V.ref p) H))) tupleD := fun _ B σ H S ρ g x d v Q e I r k => by
  cases r with
  | @lst a xs ds h q =>
    cases e
    refine ⟨_, _, rfl, .inl ⟨.of (I.sub _ _ h), fun l hl => ?_⟩⟩
    obtain ⟨I2, e2⟩ := I.alloc (o := .tup xs) hl
    exact k _ _ _ I2 e2 (.tup upd_same (q.mono e2.base))
  | tup h q => cases e; exact ⟨_, _, rfl, .inr ⟨.of (I.sub _ _ h), k _ H S I .refl (.tup h q)⟩⟩
  | _ => cases e
theorem pd_tuple {p : Pos} (hm : X.mg "tuple" = none) (ha : PE X a (tE cls W fa)) (hg : Gl X "tuple" := by rfl) (hs : starEach [a] X.env = (false, eval a X.env) :: starEach [] X.env := by rfl) : PE X (.Call (.Name "tuple" p) [a] [] pos) (tE cls W (unD tupleD fa)) :=
  pd_call1T call_tuple_of sp_tuple hm PyProof.Rows.boot_tuple ha hg (by decide) (by decide) hs
@[simp] def listD : PyData → Option PyData
  | .list ds => some (.list ds)
  | .tuple ds => some (.list ds)
  | _ => none
theorem sp_list {K : PySem.W.Frag} : Spec1c (fun xs H Q => ∃ p ys, xs = [V.ref p] ∧ (SqL K H p ys ∨ SqT K H p ys) ∧ ∀ l, H l = none → Q (V.ref l) (upd H l (.lst ys))) listD := fun _ B σ H S ρ g x d v Q e I r k => by
  cases r with
  | @lst a xs ds h q =>
    cases e
    refine ⟨_, _, rfl, .inl (.of (I.sub _ _ h)), fun l hl => ?_⟩
    obtain ⟨I2, e2⟩ := I.alloc (o := .lst xs) hl
    exact k _ _ _ I2 e2 (.lst upd_same (q.mono e2.base))
  | @tup a xs ds h q =>
    cases e
    refine ⟨_, _, rfl, .inr (.of (I.sub _ _ h)), fun l hl => ?_⟩
    obtain ⟨I2, e2⟩ := I.alloc (o := .lst xs) hl
    exact k _ _ _ I2 e2 (.lst upd_same (q.mono e2.base))
  | _ => cases e
theorem pd_list {p : Pos} (hm : X.mg "list" = none) (ha : PE X a (tE cls W fa)) (hg : Gl X "list" := by rfl) (hs : starEach [a] X.env = (false, eval a X.env) :: starEach [] X.env := by rfl) : PE X (.Call (.Name "list" p) [a] [] pos) (tE cls W (unD listD fa)) :=
  pd_call1T call_list_of sp_list hm PyProof.Rows.boot_list ha hg (by decide) (by decide) hs
/-- the ints of a list -/
def intsD : List PyData → Option (List Int)
  | [] => some []
  | .int i :: ds => (intsD ds).map (i :: ·)
  | _ :: _ => none
theorem intsD_eq : ∀ {ds : List PyData} {ns : List Int}, intsD ds = some ns → ds = ns.map PyData.int
  | [], ns, e => by cases e; rfl
  | d :: ds, ns, e => by
    cases d with
    | int i =>
      unfold intsD at e
      cases h : intsD ds with
      | none => rw [h] at e; cases e
      | some ms =>
        rw [h] at e
        cases e
        rw [List.map_cons, intsD_eq h]
    | _ => cases e
theorem intsD_map : ∀ ns : List Int, intsD (ns.map PyData.int) = some ns
  | [] => rfl
  | n :: ns => by rw [List.map_cons]; unfold intsD; rw [intsD_map ns]; rfl
def sumD : PyData → Option PyData
  | .list ds => (intsD ds).map fun ns => .int ns.sum
  | _ => none
theorem sp_sum {K : PySem.W.Frag} : Spec1c (rSum K) sumD := fun _ B σ H S ρ g x d v Q e I r k => by
  cases r with
  | @lst a xs ds h q =>
    have e : (intsD ds).map (fun ns => PyData.int ns.sum) = some d := e
    cases hi : intsD ds with
    | none => rw [hi] at e; cases e
    | some ns =>
      rw [hi] at e
      cases e
      rw [intsD_eq hi] at q
      have ex := q.ints
      subst ex
      exact ⟨a, ns, rfl, .of (I.sub _ _ h), k _ H S I .refl (.int _)⟩
  | _ => cases e
theorem pd_sum {p : Pos} (hc : X.calm = true) (hm : X.mg "sum" = none) (ha : PE X a (tE cls W fa)) (hg : Gl X "sum" := by rfl) (hs : starEach [a] X.env = (false, eval a X.env) :: starEach [] X.env := by rfl) : PE X (.Call (.Name "sum" p) [a] [] pos) (tE cls W (unD sumD fa)) :=
  pd_call1B (cr_sum hc) sp_sum hm boot_sum ha hg (by decide) (by decide) hs
/-- isinstance(a, T), T a built-in type -/
def isT (T : String) : PyData → Bool
  | .bool _ => T == "bool" || T == "int"
  | .int _ => T == "int"
  | .str _ => T == "str"
  | .list _ => T == "list"
  | .tuple _ => T == "tuple"
  | _ => false
@[simp] def isiD (T : String) : PyData → Option PyData := fun d => some (.bool (isT T d))
structure KitOk (T : String) : Prop where
  non : kitB "NoneType" T = some (isT T .none)
  bl : kitB "bool" T = some (isT T (.bool true))
  int : kitB "int" T = some (isT T (.int 0))
  str : kitB "str" T = some (isT T (.str (Str.ofString "")))
  lst : kitB "list" T = some (isT T (.list []))
  tup : kitB "tuple" T = some (isT T (.tuple []))
  dic : kitB "dict" T = some (isT T (.dict []))
theorem kit_int : KitOk "int" := ⟨by decide +kernel, by decide +kernel, by decide +kernel, by decide +kernel, by decide +kernel, by decide +kernel, by decide +kernel⟩
theorem kit_bool : KitOk "bool" := ⟨by decide +kernel, by decide +kernel, by decide +kernel, by decide +kernel, by decide +kernel, by decide +kernel, by decide +kernel⟩
theorem kit_str : KitOk "str" := ⟨by decide +kernel, by decide +kernel, by decide +kernel, by decide +kernel, by decide +kernel, by decide +kernel, by decide +kernel⟩
theorem kit_list : KitOk "list" := ⟨by decide +kernel, by decide +kernel, by decide +kernel, by decide +kernel, by decide +kernel, by decide +kernel, by decide +kernel⟩
theorem kit_tuple : KitOk "tuple" := ⟨by decide +kernel, by decide +kernel, by decide +kernel, by decide +kernel, by decide +kernel, by decide +kernel, by decide +kernel⟩
/-- of a dict that is fixed -/
def rIsd (K : PySem.W.Frag) : List V → Hp → VK → Prop := fun xs H Q => ∃ (d : Addr) (o : Obj) (kvs : List (Key × V)) (T : String) (b : Bool), xs = [.ref d, .ty T] ∧ H d = some (.frz o (.dK kvs)) ∧ kitB "dict" T = some b ∧ Q (.bl b) H
def rIsn : List V → Hp → VK → Prop := fun vs H Q => ∃ (d : Addr) (o : Obj) (xs : List NRow) (T : String) (b : Bool), vs = [.ref d, .ty T] ∧ H d = some (.frz o (NdO d xs)) ∧ kitB "dict" T = some b ∧ Q (.bl b) H
abbrev rIsi2 (K : PySem.W.Frag) : List V → Hp → VK → Prop := fun xs H Q => rIsi K xs H Q ∨ rIsd K xs H Q ∨ rIsn xs H Q
theorem call_isi2 {X : Cx} : CallR X (.builtin "isinstance") (rIsi2 X.K) := by
  intro pins s σ H xs us Q I r h
  rcases h with h | ⟨d, o, kvs, T, b, rfl, hd, e, q⟩ | ⟨d, o, ys, T, b, rfl, hd, e, q⟩
  · exact call_isi pins s σ H xs us Q I r h
  rotate_left
  · obtain ⟨u1, u2, rfl, r1, r2⟩ := vals2 r
    cases (show u1 = Value.ref d from r1)
    have e2 := (ClsV.ty T).eq r2
    subst e2
    obtain ⟨_, hg, hx, _⟩ := Inv.frzN I hd
    exact PySem.W.kia_one PySem.W.kitx_dict I.kIn ⟨o, hg, hx.1⟩ (kit_ty e) (fun z => nomatch z) fun tk => ⟨.bl b, H, I.tok tk, rfl, q⟩
  · obtain ⟨u1, u2, rfl, r1, r2⟩ := vals2 r
    cases (show u1 = Value.ref d from r1)
    have e2 := (ClsV.ty T).eq r2
    subst e2
    obtain ⟨_, hg, hx, _⟩ := I.frzK hd
    exact PySem.W.kia_one PySem.W.kitx_dict I.kIn ⟨o, hg, hx.1⟩ (kit_ty e) (fun z => nomatch z) fun tk => ⟨.bl b, H, I.tok tk, rfl, q⟩
theorem sp_isi {K : PySem.W.Frag} {T : String} (kt : KitOk T) : Spec1 (fun v H Q => rIsi2 K [v, .ty T] H Q) (isiD T) := fun _ B σ H S ρ g x d v Q e I r k => by
  cases e
  have fin : ∀ {t : String} {b : Bool}, TyOf K H v (.type t) → kitB t T = some b → b = isT T x → rIsi2 K [v, .ty T] H Q := fun {t b} ty h hb => by
    subst hb
    exact .inl ⟨v, .ty T, _, _, _, rfl, .ty T, .base ty, kit_ty h, k _ H S I .refl (.bl _)⟩
  cases r with
  | non => exact fin .non kt.non rfl
  | bl b => exact fin (.bl b) kt.bl rfl
  | int i => exact fin (.int i) kt.int rfl
  | str z => exact fin (.str z) kt.str rfl
  | lst h q => exact fin (.lst (I.sub _ _ h)) kt.lst rfl
  | tup h q => exact fin (.tup (I.sub _ _ h)) kt.tup rfl
  | dic h q => exact .inr (.inl ⟨_, _, _, T, _, rfl, I.sub _ _ h, kt.dic, k _ H S I .refl (.bl _)⟩)
  | dicN h q => exact .inr (.inr ⟨_, _, _, T, _, rfl, I.sub _ _ h, kt.dic, k _ H S I .refl (.bl _)⟩)
theorem pd_isi {p p' : Pos} {T : Str} {t : String} (kt : KitOk t) (hm : X.mg "isinstance" = none) (hmT : X.mg T = none) (hvT : bootBuiltins T = some (.type t)) (ha : PE X a (tE cls W fa)) (hg : Gl X "isinstance" := by rfl) (hgT : Gl X T := by rfl) (hnT : T ≠ "__name__" := by decide) (hdT : (T == ("__debug__" : Str)) = false := by decide)
    (hs : starEach [a, .Name T p'] X.env = (false, eval a X.env) :: starEach [.Name T p'] X.env := by rfl) (hs2 : starEach [.Name T p'] X.env = (false, eval (.Name T p') X.env) :: starEach [] X.env := by rfl) (hpl : (backTo pos (starEach [.Name T p'] X.env)).any (·.1) = false := by rfl) :
    PE X (.Call (.Name "isinstance" p) [a, .Name T p'] [] pos) (tE cls W (unD (isiD t) fa)) :=
  PE_imp (pe_callB call_isi2 hg hm boot_isinstance (pa_cons ha (pa_cons (pe_bltn (v := .ty t) hgT hmT hvT rfl hnT hdT) pa_nil hs2) hs) (by decide) (by decide) hs hpl) (un_of (sp_isi kt))
end
end DL

set_option Elab.async false
set_option linter.all false
set_option maxRecDepth 100000
set_option maxHeartbeats 400000
namespace DL
open PySem PySem.Spec PyProof.Rows L2
variable {cls : Nat → Value}

/-! ### slices -/
abbrev Pa := Nv → G → R (Option Int)
section
variable (cls : Nat → Value) (W : WX)
def PaO (B : Bs cls) (σ : L2.St) (H S : Hp) (ρ : Nv) (Q : Option Int → Hp → Prop) : R (Option Int) → Prop
  | .ok b g' => ∀ H' S', Good B σ H' S' ρ g' → Gr B H S H' S' → Q b H'
  | .ex n g' => ∀ H' S', Good B σ H' S' ρ g' → Gr B H S H' S' → W (cls n) none σ H'
  | .bad => False
def tP (f : Pa) : L2.TO := fun σ H Q => ∃ B S ρ g, Good B σ H S ρ g ∧ PaO cls W B σ H S ρ Q (f ρ g)
end
section
variable {X : Cx} {cls : Nat → Value} {W : WX} {pos : Pos} {a b c : Expr} {fa fb fc : Ex}
theorem PO_imp {e : Option Expr} {t t' : L2.TO} (h : PO X e t) (hi : ∀ σ H Q, t' σ H Q → t σ H Q) : PO X e t' := ⟨fun pins s σ H Q I q => h.run pins s σ H Q I (hi _ _ _ q)⟩
theorem PaO_gr {B : Bs cls} {σ : L2.St} {H S H1 S1 : Hp} {ρ : Nv} {Q : Option Int → Hp → Prop} {r : R (Option Int)} (e : Gr B H S H1 S1) (h : PaO cls W B σ H S ρ Q r) : PaO cls W B σ H1 S1 ρ Q r := by
  cases r with
  | ok a g => exact fun H' S' I u => h H' S' I (e.trans u)
  | ex n g => exact fun H' S' I u => h H' S' I (e.trans u)
  | bad => exact h
@[simp] def noPart : Pa := fun _ g => .ok none g
@[simp] def somePart (f : Ex) : Pa := fun ρ g => (f ρ g).bind fun d g1 => match d with
  | .int i => .ok (some i) g1
  | _ => .bad
theorem po_no : PO X none (tP cls W noPart) := PO_imp po_none fun σ H Q ⟨B, S, ρ, g, I, h⟩ => h H S I .refl
theorem po_so (ha : PE X a (tE cls W fa)) : PO X (some a) (tP cls W (somePart fa)) := PO_imp (po_some ha) fun σ H Q ⟨B, S, ρ, g, I, h⟩ => by
  unfold somePart at h
  refine ⟨B, S, ρ, g, I, ?_⟩
  cases ea : fa ρ g with
  | bad => rw [ea] at h; exact h
  | ex n g1 => rw [ea] at h; exact h
  | ok x g1 =>
    rw [ea] at h
    intro v H1 S1 I1 e1 r1
    cases r1 with
    | int i => exact ⟨i, rfl, h H1 S1 I1 e1⟩
    | _ => exact False.elim h
def cutP (xs : List PyData) (lo hi : Option Int) : List PyData := (xs.drop (HT.sIx xs.length 0 lo)).take (HT.sIx xs.length xs.length hi - HT.sIx xs.length 0 lo)
theorem Rps.cut {S : Hp} {vs : List V} {ds : List PyData} (r : Rps S vs ds) (lo hi : Option Int) : Rps S (cutV vs lo hi) (cutP ds lo hi) := by
  unfold cutV cutP
  rw [r.length]
  exact (r.drop _).take _
@[simp] def slD (f : Ex) (lo hi : Pa) : Ex := fun ρ g => (f ρ g).bind fun x g1 => (lo ρ g1).bind fun l g2 => (hi ρ g2).bind fun u g3 => match x with
  | .list ds => .ok (.list (cutP ds l u)) g3
  | .tuple ds => .ok (.tuple (cutP ds l u)) g3
  | _ => .bad
theorem pd_slice {lo hi : Option Expr} {fl fh : Pa} {p2 : Pos} (ha : PE X a (tE cls W fa)) (hl : PO X lo (tP cls W fl)) (hh : PO X hi (tP cls W fh)) : PE X (.Subscript a (.Slice lo hi none p2) pos) (tE cls W (slD fa fl fh)) :=
  PE_imp (pe_slice (SlR.or sl_list sl_tupA) ha hl hh) fun σ H Q ⟨B, S, ρ, g, I, h⟩ => by
    unfold slD at h
    refine ⟨B, S, ρ, g, I, ?_⟩
    cases ea : fa ρ g with
    | bad => rw [ea] at h; exact h
    | ex n g1 => rw [ea] at h; exact h
    | ok x g1 =>
      rw [ea] at h
      intro v H1 S1 I1 e1 r1
      refine ⟨B, S1, ρ, g1, I1, ?_⟩
      have h' := EO_gr e1 h
      simp only [R.bind_ok] at h'
      cases eb : fl ρ g1 with
      | bad => rw [eb] at h'; exact h'
      | ex n g2 => rw [eb] at h'; exact h'
      | ok l g2 =>
        rw [eb] at h'
        simp only [R.bind_ok] at h'
        intro H2 S2 I2 e2
        refine ⟨B, S2, ρ, g2, I2, ?_⟩
        have h2 := EO_gr e2 h'
        cases ec : fh ρ g2 with
        | bad => rw [ec] at h2; exact h2
        | ex n g3 => rw [ec] at h2; exact h2
        | ok u g3 =>
          rw [ec] at h2
          simp only [R.bind_ok] at h2
          intro H3 S3 I3 e3
          have h3 := EO_gr e3 h2
          have r3 := (r1.mono e2.base).mono e3.base
          cases r3 with
          | @lst p xs ds hx qx =>
            refine .inl ⟨p, xs, rfl, .of (I3.sub _ _ hx), fun q hq => ?_⟩
            obtain ⟨I4, e4⟩ := I3.alloc (o := .lst (cutV xs l u)) hq
            exact h3 _ _ _ I4 e4 (.lst upd_same ((qx.cut l u).mono e4.base))
          | @tup p xs ds hx qx =>
            refine .inr ⟨p, xs, rfl, .of (I3.sub _ _ hx), fun hw => ?_, fun hw q hq => ?_⟩
            · have ec : cutP ds l u = ds := by
                unfold cutP
                rw [qx.length] at hw
                rw [hw.1, hw.2]
                simp
              have h4 := h3 (.ref p) H3 S3 I3 .refl
              rw [ec] at h4
              exact h4 (.tup hx qx)
            · obtain ⟨I4, e4⟩ := I3.alloc (o := .tup (cutV xs l u)) hq
              exact h3 _ _ _ I4 e4 (.tup upd_same ((qx.cut l u).mono e4.base))
          | _ => exact False.elim h3
end

/-! ### what is walked -/
/-- a step of a walk: the heap as it was, or with one more shared object -/
inductive Gr1 (H S : Hp) : Hp → Hp → Prop
  | same : Gr1 H S H S
  | new {p : Addr} {o : HO} : H p = none → Gr1 H S (upd H p o) (upd S p o)
theorem Gr1.good {B : Bs cls} {σ : L2.St} {H S H' S' : Hp} {ρ : Nv} {g : G} (e : Gr1 H S H' S') (I : Good B σ H S ρ g) : Good B σ H' S' ρ g ∧ Gr B H S H' S' := by
  cases e with
  | same => exact ⟨I, .refl⟩
  | new h => exact I.alloc h
structure ItOk (J : It) (S : Hp) (ds : List PyData) : Prop where
  go : ∀ i H, i < ds.length → Same S H → J.go i H
  stop : ∀ i H, ds.length ≤ i → Same S H → J.stop i H
  yld : ∀ i H S' x H', i < ds.length → Same S S' → Same S' H → J.yld i H x H' → ∃ d S2, ds[i]? = some d ∧ Gr1 H S' H' S2 ∧ Rp S2 x d
section
variable (cls : Nat → Value) (W : WX)
def IO (B : Bs cls) (σ : L2.St) (H S : Hp) (ρ : Nv) (Q : It → Hp → Prop) : R (List PyData) → Prop
  | .ok ds g' => ∀ J H' S', Good B σ H' S' ρ g' → Gr B H S H' S' → ItOk J S' ds → Q J H'
  | .ex n g' => ∀ H' S', Good B σ H' S' ρ g' → Gr B H S H' S' → W (cls n) none σ H'
  | .bad => False
def tI (f : Ar) : TI := fun σ H Q => ∃ B S ρ g, Good B σ H S ρ g ∧ IO cls W B σ H S ρ Q (f ρ g)
end
section
variable {X : Cx} {cls : Nat → Value} {W : WX} {pos : Pos} {a b c tg : Expr} {fa fb fc : Ex}
@[simp] def itemsD (f : Ex) : Ar := fun ρ g => (f ρ g).bind fun d g1 => match d with
  | .list ds => .ok ds g1
  | .tuple ds => .ok ds g1
  | _ => .bad
theorem it_list {K : PySem.W.Frag} {S : Hp} {p : Addr} {xs : List V} {ds : List PyData} (hx : S p = some (.lst xs)) (q : Rps S xs ds) : ItOk (Itl K p) S ds := by
  refine ⟨fun i H hi hs => ?_, fun i H hi hs => ⟨xs, .of (hs _ _ hx), by rw [q.length]; exact hi⟩, fun i H S' x H' hi h1 h2 hy => ?_⟩
  · obtain ⟨v, hv, _⟩ := q.getD (List.getElem?_eq_getElem hi)
    exact ⟨xs, v, .of (hs _ _ hx), hv⟩
  · obtain ⟨rfl, hy⟩ := hy
    obtain ⟨d, hd, r⟩ := q.get (hy xs (.of (h2 _ _ (h1 _ _ hx))))
    exact ⟨d, S', hd, .same, r.mono h1⟩
theorem it_tup {K : PySem.W.Frag} {S : Hp} {p : Addr} {xs : List V} {ds : List PyData} (hx : S p = some (.tup xs)) (q : Rps S xs ds) : ItOk (Itt K p) S ds := by
  refine ⟨fun i H hi hs => ?_, fun i H hi hs => ⟨xs, .of (hs _ _ hx), by rw [q.length]; exact hi⟩, fun i H S' x H' hi h1 h2 hy => ?_⟩
  · obtain ⟨v, hv, _⟩ := q.getD (List.getElem?_eq_getElem hi)
    exact ⟨xs, v, .of (hs _ _ hx), hv⟩
  · obtain ⟨rfl, hy⟩ := hy
    obtain ⟨d, hd, r⟩ := q.get (hy xs (.of (h2 _ _ (h1 _ _ hx))))
    exact ⟨d, S', hd, .same, r.mono h1⟩
theorem pid_seq (ha : PE X a (tE cls W fa)) : PI X tg a (tI cls W (itemsD fa)) := by
  refine ⟨fun pins s σ H Q I0 h => ?_⟩
  obtain ⟨B, S, ρ, g, I, h⟩ := h
  unfold itemsD at h
  cases ea : fa ρ g with
  | bad => rw [ea] at h; exact False.elim h
  | ex n g1 =>
    rw [ea] at h
    refine (pi_list ha).run pins s σ H Q I0 ⟨B, S, ρ, g, I, ?_⟩
    rw [ea]
    exact h
  | ok x g1 =>
    rw [ea] at h
    simp only [R.bind_ok] at h
    cases x with
    | list ds =>
      refine (pi_list ha).run pins s σ H Q I0 ⟨B, S, ρ, g, I, ?_⟩
      rw [ea]
      intro v H1 S1 I1 e1 r1
      cases r1 with
      | @lst p xs ds hx qx => exact ⟨p, rfl, ⟨xs, .of (I1.sub _ _ hx)⟩, h _ H1 S1 I1 e1 (it_list hx qx)⟩
    | tuple ds =>
      refine (pi_tup ha).run pins s σ H Q I0 ⟨B, S, ρ, g, I, ?_⟩
      rw [ea]
      intro v H1 S1 I1 e1 r1
      cases r1 with
      | @tup p xs ds hx qx => exact ⟨p, rfl, ⟨xs, .of (I1.sub _ _ hx)⟩, h _ H1 S1 I1 e1 (it_tup hx qx)⟩
    | _ => exact False.elim h
def upFrom (lo : Int) (n : Nat) : List PyData := (List.range n).map fun (k : Nat) => PyData.int (lo + (k : Int))
theorem it_rng (S : Hp) (lo : Int) (n : Nat) : ItOk (Itr lo n) S (upFrom lo n) := by
  have hl : (upFrom lo n).length = n := by unfold upFrom; rw [List.length_map, List.length_range]
  refine ⟨fun i H hi _ => by rw [hl] at hi; exact hi, fun i H hi _ => by rw [hl] at hi; exact hi, fun i H S' x H' hi h1 h2 hy => ?_⟩
  obtain ⟨rfl, rfl⟩ := hy
  rw [hl] at hi
  refine ⟨.int (lo + (i : Int)), S', ?_, .same, .int _⟩
  unfold upFrom
  rw [List.getElem?_map, List.getElem?_range hi]
  rfl
@[simp] def rangeD (f : Ex) : Ar := fun ρ g => (f ρ g).bind fun d g1 => match d with
  | .int n => if n ≤ (big : Int) ∧ -(big : Int) ≤ n then .ok (upFrom 0 n.toNat) g1 else .bad
  | _ => .bad
theorem pid_range {p : Pos} (hm : X.mg "range" = none) (ha : PE X a (tE cls W fa)) (hg : Gl X "range" := by rfl) (hs : starEach [a] X.env = [(false, eval a X.env)] := by rfl) : PI X tg (.Call (.Name "range" p) [a] [] pos) (tI cls W (rangeD fa)) := by
  refine ⟨fun pins s σ H Q I0 h => (pi_range1 hg hm (pa_cons ha pa_nil hs) hs).run pins s σ H Q I0 ?_⟩
  obtain ⟨B, S, ρ, g, I, h⟩ := h
  unfold rangeD at h
  refine ⟨B, S, ρ, g, I, ?_⟩
  cases ea : fa ρ g with
  | bad => rw [ea] at h; exact False.elim h
  | ex n g1 => rw [ea] at h; exact h
  | ok x g1 =>
    rw [ea] at h
    simp only [R.bind_ok] at h
    intro v H1 S1 I1 e1 r1
    cases r1 with
    | int n =>
      simp only at h
      by_cases hn : n ≤ (big : Int) ∧ -(big : Int) ≤ n
      · rw [if_pos hn] at h
        have hb : (big : Int) = 1000000 := rfl
        exact ⟨n, rfl, by omega, by omega, h _ H1 S1 I1 e1 (it_rng S1 0 n.toNat)⟩
      · rw [if_neg hn] at h
        exact False.elim h
    | _ => exact False.elim h
@[simp] def range2D (f f2 : Ex) : Ar := fun ρ g => (f ρ g).bind fun d g1 => (f2 ρ g1).bind fun e g2 => match d, e with
  | .int n, .int m => if n ≤ (big : Int) ∧ -(big : Int) ≤ n ∧ m ≤ (big : Int) ∧ -(big : Int) ≤ m then .ok (upFrom n (m - n).toNat) g2 else .bad
  | _, _ => .bad
theorem pid_range2 {p : Pos} (hm : X.mg "range" = none) (ha : PE X a (tE cls W fa)) (hb : PE X b (tE cls W fb)) (hg : Gl X "range" := by rfl) (hs : starEach [a, b] X.env = [(false, eval a X.env), (false, eval b X.env)] := by rfl) (hs2 : starEach [b] X.env = [(false, eval b X.env)] := by rfl) (hs3 : starEach [a, b] X.env = (false, eval a X.env) :: starEach [b] X.env := by rfl) (hs4 : starEach [b] X.env = (false, eval b X.env) :: starEach [] X.env := by rfl) :
    PI X tg (.Call (.Name "range" p) [a, b] [] pos) (tI cls W (range2D fa fb)) := by
  refine ⟨fun pins s σ H Q I0 h => (pi_range2 hg hm (pa_cons ha (pa_cons hb pa_nil hs4) hs3) hs hs2).run pins s σ H Q I0 ?_⟩
  obtain ⟨B, S, ρ, g, I, h⟩ := h
  unfold range2D at h
  refine ⟨B, S, ρ, g, I, ?_⟩
  cases ea : fa ρ g with
  | bad => rw [ea] at h; exact False.elim h
  | ex n g1 => rw [ea] at h; exact h
  | ok x g1 =>
    rw [ea] at h
    simp only [R.bind_ok] at h
    intro v H1 S1 I1 e1 r1
    refine ⟨B, S1, ρ, g1, I1, ?_⟩
    cases eb : fb ρ g1 with
    | bad => rw [eb] at h; exact False.elim h
    | ex n g2 =>
      rw [eb] at h
      exact fun H' S' I' e' => h H' S' I' (e1.trans e')
    | ok y g2 =>
      rw [eb] at h
      simp only [R.bind_ok] at h
      intro u H2 S2 I2 e2 r2
      cases r1 with
      | int n =>
        cases r2 with
        | int m =>
          simp only at h
          by_cases hn : n ≤ (big : Int) ∧ -(big : Int) ≤ n ∧ m ≤ (big : Int) ∧ -(big : Int) ≤ m
          · rw [if_pos hn] at h
            have hb : (big : Int) = 1000000 := rfl
            exact ⟨n, m, rfl, ⟨by omega, by omega, by omega, by omega⟩, h _ H2 S2 I2 (e1.trans e2) (it_rng S2 n (m - n).toNat)⟩
          · rw [if_neg hn] at h
            exact False.elim h
        | _ => exact False.elim h
      | _ => exact False.elim h
end

/-! ### targets -/
/-- only these slots have changed -/
structure Chg (ts : List Nat) (σ σ' : L2.St) : Prop where
  len : σ'.length = σ.length
  out : ∀ i, i ∉ ts → σ'[i]? = σ[i]?
theorem wipe_in : ∀ {vs : List Nat} {σ : L2.St} {i : Nat}, i ∈ vs → i < σ.length → (wipe σ vs)[i]? = some none
  | v :: vs, σ, i, h, hl => by
    unfold wipe
    by_cases hv : v = i
    · subst hv
      exact List.getElem?_set_self (by rw [wipe_length]; exact hl)
    · rw [List.getElem?_set_ne hv]
      exact wipe_in ((List.mem_cons.mp h).resolve_left fun z => hv z.symm) hl
theorem Chg.wipe {ts vs : List Nat} {σ σ' : L2.St} (c : Chg ts σ σ') (h : ∀ i ∈ ts, i ∈ vs) : L2.wipe σ' vs = L2.wipe σ vs := by
  refine List.ext_getElem? fun i => ?_
  by_cases hi : i ∈ vs
  · by_cases hl : i < σ.length
    · rw [wipe_in hi hl, wipe_in hi (by rw [c.len]; exact hl)]
    · rw [List.getElem?_eq_none (by rw [wipe_length, c.len]; exact Nat.le_of_not_lt hl), List.getElem?_eq_none (by rw [wipe_length]; exact Nat.le_of_not_lt hl)]
  · rw [wipe_out hi, wipe_out hi]
    exact c.out i fun z => hi (h i z)
abbrev Tg := PyData → Nv → Option Nv
def tG (ts : List Nat) (f : Tg) : TG := fun v σ H Q => ∃ (cls : Nat → Value) (B : Bs cls) (S : Hp) (ρ : Nv) (g : G) (d : PyData) (ρ' : Nv), Good B σ H S ρ g ∧ Rp S v d ∧ f d ρ = some ρ' ∧ ∀ σ', Good B σ' H S ρ' g → Chg ts σ σ' → Q σ' H
theorem Good.setSh {B : Bs cls} {σ : L2.St} {H S : Hp} {ρ : Nv} {g : G} (I : Good B σ H S ρ g) (i : Nat) {v : V} {d : PyData} (r : Rp S v d) : Good B (σ.set i (some v)) H S (ρ.set i (.sh d)) g := by
  have key : ∀ (j : Nat) (z : Sl), (ρ.set i (.sh d))[j]? = some z → (j = i ∧ z = .sh d ∧ i < ρ.length) ∨ (j ≠ i ∧ ρ[j]? = some z) := fun j z h => by
    by_cases hj : j = i
    · subst hj
      by_cases hl : j < ρ.length
      · rw [List.getElem?_set_self hl] at h
        exact .inl ⟨rfl, (Option.some.inj h).symm, hl⟩
      · rw [List.getElem?_eq_none (by rw [List.length_set]; exact Nat.le_of_not_lt hl)] at h
        cases h
    · rw [List.getElem?_set_ne (Ne.symm hj)] at h
      exact .inr ⟨hj, h⟩
  have at_ne : ∀ j, j ≠ i → (σ.set i (some v))[j]? = σ[j]? := fun j hj => List.getElem?_set_ne (Ne.symm hj)
  refine ⟨I.toFin, by rw [List.length_set, List.length_set]; exact I.len, fun j d' h => ?_, fun j {_} h => ?_, fun j n h => ?_, fun j b h => ?_, fun j l b c a h1 h2 h3 h4 => ?_, I.mxSame fun j b h => ?_⟩
  · rcases key j _ h with ⟨rfl, e, hl⟩ | ⟨hj, h⟩
    · cases e
      exact ⟨v, List.getElem?_set_self (by rw [I.len]; exact hl), r⟩
    · rw [at_ne j hj]; exact I.sh j d' h
  · rcases key j _ h with ⟨rfl, e, hl⟩ | ⟨hj, h⟩
    · cases e
    · rw [at_ne j hj]; exact I.dw j h
  · rcases key j _ h with ⟨rfl, e, hl⟩ | ⟨hj, h⟩
    · cases e
    · rw [at_ne j hj]; exact I.sw j n h
  · rcases key j _ h with ⟨rfl, e, hl⟩ | ⟨hj, h⟩
    · cases e
    · rw [at_ne j hj]; exact I.ow j b h
  · rcases key j _ h1 with ⟨rfl, e, hl⟩ | ⟨hj, h1⟩
    · cases e
    · rcases key l _ h2 with ⟨rfl, e, hl⟩ | ⟨hl, h2⟩
      · cases e
      · rw [at_ne j hj] at h3
        rw [at_ne l hl] at h4
        exact I.ap j l b c a h1 h2 h3 h4
  · rcases key j _ h with ⟨rfl, e, hl⟩ | ⟨hj, h⟩
    · cases e
    · exact ⟨h, at_ne j hj⟩
theorem chg_set (σ : L2.St) (i : Nat) (v : Option V) : Chg [i] σ (σ.set i v) := ⟨List.length_set, fun j hj => List.getElem?_set_ne fun z => hj (by rw [z]; exact List.mem_cons_self)⟩
theorem Chg.trans {ts us : List Nat} {σ σ1 σ2 : L2.St} (a : Chg ts σ σ1) (b : Chg us σ1 σ2) : Chg (ts ++ us) σ σ2 := ⟨b.len.trans a.len, fun i hi => (b.out i fun z => hi (List.mem_append_right _ z)).trans (a.out i fun z => hi (List.mem_append_left _ z))⟩
@[simp] def nameT (i : Nat) : Tg := fun d ρ => some (ρ.set i (.sh d))
abbrev Tgs := List PyData → Nv → Option Nv
@[simp] def nilT : Tgs := fun ds ρ => match ds with
  | [] => some ρ
  | _ => none
@[simp] def consT (t : Tg) (u : Tgs) : Tgs := fun ds ρ => match ds with
  | d :: r => (t d ρ).bind fun ρ1 => u r ρ1
  | _ => none
@[simp] def tupT (u : Tgs) : Tg := fun d ρ => match d with
  | .tuple ds => u ds ρ
  | _ => none
def tGs (ts : List Nat) (f : Tgs) : TGs := fun vs σ H Q => ∃ (cls : Nat → Value) (B : Bs cls) (S : Hp) (ρ : Nv) (g : G) (ds : List PyData) (ρ' : Nv), Good B σ H S ρ g ∧ Rps S vs ds ∧ f ds ρ = some ρ' ∧ ∀ σ', Good B σ' H S ρ' g → Chg ts σ σ' → Q σ' H
section
variable {X : Cx} {pos : Pos}
theorem PG_imp {e : Expr} {t t' : TG} (h : PG X e t) (hi : ∀ v σ H Q, t' v σ H Q → t v σ H Q) : PG X e t' := ⟨fun pins s σ H v u Q I r q => h.run pins s σ H v u Q I r (hi _ _ _ _ q)⟩
theorem PGs_imp {e : List Expr} {t t' : TGs} (h : PGs X e t) (hi : ∀ v σ H Q, t' v σ H Q → t v σ H Q) : PGs X e t' := ⟨fun pins s σ H v u Q I r q => h.run pins s σ H v u Q I r (hi _ _ _ _ q)⟩
theorem pgd_name (i : Nat) {x : Str} (hN : X.N.Nodup) (hi : X.N[i]? = some x := by rfl) (hx : Loc X.env.scope x := by first | exact Or.inl rfl | exact Or.inr rfl) (hf : X.fn x = true ∨ X.env.scope.names.lookup x = some .local := by first | exact .inl rfl | exact .inr rfl | assumption) :
    PG X (.Name x pos) (tG [i] (nameT i)) := PG_imp (pg_name hN hi hx hf) fun v σ H Q ⟨_, B, S, ρ, g, d, ρ', I, r, e, k⟩ => by
  cases e
  exact k _ (I.setSh i r) (chg_set σ i _)
theorem pgsd_nil : PGs X [] (tGs [] nilT) := PGs_imp pgs_nil fun v σ H Q ⟨_, B, S, ρ, g, d, ρ', I, r, e, k⟩ => by
  cases r with
  | nil => cases e; exact ⟨rfl, k _ I ⟨rfl, fun _ _ => rfl⟩⟩
  | cons _ _ => cases e
theorem pgsd_cons {e : Expr} {es : List Expr} {t : Tg} {u : Tgs} {ts us : List Nat} (h1 : PG X e (tG ts t)) (h2 : PGs X es (tGs us u)) (hs : (assignEach (e :: es) X.env).map (·.2) = assign e X.env :: (assignEach es X.env).map (·.2) := by rfl) :
    PGs X (e :: es) (tGs (ts ++ us) (consT t u)) := PGs_imp (pgs_cons h1 h2 hs) fun v σ H Q ⟨_, B, S, ρ, g, ds, ρ', I, r, e, k⟩ => by
  cases r with
  | nil => cases e
  | @cons v1 d1 vs1 ds1 r1 rr =>
    have e' : (t d1 ρ).bind (fun ρ1 => u ds1 ρ1) = some ρ' := e
    cases et : t d1 ρ with
    | none => rw [et] at e'; cases e'
    | some ρ1 =>
      rw [et] at e'
      exact ⟨v1, vs1, rfl, _, B, S, ρ, g, d1, ρ1, I, r1, et, fun σ1 I1 c1 => ⟨_, B, S, ρ1, g, ds1, ρ', I1, rr, e', fun σ2 I2 c2 => k σ2 I2 (c1.trans c2)⟩⟩
theorem pgd_tup {es : List Expr} {k : Nat} {u : Tgs} {us : List Nat} {n : Nat} (hc : X.calm = true) (h : PGs X es (tGs us u)) (hu : ∀ ds ρ ρ', u ds ρ = some ρ' → ds.length = n)
    (hn : (assignEach es X.env).length = n := by rfl) (hst : (assignEach es X.env).findIdx? (·.1) = none := by rfl) : PG X (.Tuple es k pos) (tG us (tupT u)) := PG_imp (pg_tup hc h hn hst) fun v σ H Q ⟨_, B, S, ρ, g, d, ρ', I, r, e, k⟩ => by
  cases r with
  | @tup a xs ds hx qx => exact ⟨a, xs, rfl, .of (I.sub _ _ hx), qx.length.trans (hu ds ρ ρ' e), _, B, S, ρ, g, ds, ρ', I, qx, e, k⟩
  | _ => cases e
end
theorem len2 {i j : Nat} (ds : List PyData) (ρ ρ' : Nv) (h : consT (nameT i) (consT (nameT j) nilT) ds ρ = some ρ') : ds.length = 2 := by
  match ds, h with
  | [_, _], _ => rfl
  | [], h => cases h
  | [_], h => cases h
  | _ :: _ :: _ :: _, h => cases h
theorem len3 {i j k : Nat} (ds : List PyData) (ρ ρ' : Nv) (h : consT (nameT i) (consT (nameT j) (consT (nameT k) nilT)) ds ρ = some ρ') : ds.length = 3 := by
  match ds, h with
  | [_, _, _], _ => rfl
  | [], h => cases h
  | [_], h => cases h
  | [_, _], h => cases h
  | _ :: _ :: _ :: _ :: _, h => cases h
theorem len4 {i j k l : Nat} (ds : List PyData) (ρ ρ' : Nv) (h : consT (nameT i) (consT (nameT j) (consT (nameT k) (consT (nameT l) nilT))) ds ρ = some ρ') : ds.length = 4 := by
  match ds, h with
  | [_, _, _, _], _ => rfl
  | [], h => cases h
  | [_], h => cases h
  | [_, _], h => cases h
  | [_, _, _], h => cases h
  | _ :: _ :: _ :: _ :: _ :: _, h => cases h

/-! ### list comprehensions -/
@[simp] def wipeD (ρ : Nv) : List Nat → Nv
  | [] => ρ
  | v :: vs => (wipeD ρ vs).set v .no
theorem Good.setNo {B : Bs cls} {σ : L2.St} {H S : Hp} {ρ : Nv} {g : G} (I : Good B σ H S ρ g) (i : Nat) (v : Option V) : Good B (σ.set i v) H S (ρ.set i .no) g := by
  have key : ∀ (j : Nat) (z : Sl), z ≠ .no → (ρ.set i .no)[j]? = some z → j ≠ i ∧ ρ[j]? = some z := fun j z hz h => by
    by_cases hj : j = i
    · subst hj
      by_cases hl : j < ρ.length
      · rw [List.getElem?_set_self hl] at h
        exact absurd (Option.some.inj h).symm hz
      · rw [List.getElem?_eq_none (by rw [List.length_set]; exact Nat.le_of_not_lt hl)] at h
        cases h
    · rw [List.getElem?_set_ne (Ne.symm hj)] at h
      exact ⟨hj, h⟩
  have at_ne : ∀ j, j ≠ i → (σ.set i v)[j]? = σ[j]? := fun j hj => List.getElem?_set_ne (Ne.symm hj)
  refine ⟨I.toFin, by rw [List.length_set, List.length_set]; exact I.len, fun j d' h => ?_, fun j {_} h => ?_, fun j n h => ?_, fun j b h => ?_, fun j l b c a h1 h2 h3 h4 => ?_, I.mxSame fun j b h => ?_⟩
  · obtain ⟨hj, h⟩ := key j (.sh d') (fun z => nomatch z) h
    rw [at_ne j hj]; exact I.sh j d' h
  · obtain ⟨hj, h⟩ := key j (.dx _) (fun z => nomatch z) h
    rw [at_ne j hj]; exact I.dw j h
  · obtain ⟨hj, h⟩ := key j (.sc n) (fun z => nomatch z) h
    rw [at_ne j hj]; exact I.sw j n h
  · obtain ⟨hj, h⟩ := key j (.ow b) (fun z => nomatch z) h
    rw [at_ne j hj]; exact I.ow j b h
  · obtain ⟨hj, h1⟩ := key j (.ow b) (fun z => nomatch z) h1
    obtain ⟨hl, h2⟩ := key l (.ow c) (fun z => nomatch z) h2
    rw [at_ne j hj] at h3
    rw [at_ne l hl] at h4
    exact I.ap j l b c a h1 h2 h3 h4
  · obtain ⟨hj, h⟩ := key j (.ow b) (fun z => nomatch z) h
    exact ⟨h, at_ne j hj⟩
theorem Good.wiped {B : Bs cls} {σ : L2.St} {H S : Hp} {ρ : Nv} {g : G} (I : Good B σ H S ρ g) : ∀ vs : List Nat, Good B (wipe σ vs) H S (wipeD ρ vs) g
  | [] => I
  | v :: vs => (I.wiped vs).setNo v none
/-- a slot set or an evaluation does not need the other slots: the state of the outer slots behind growth -/
theorem Good.back {B : Bs cls} {σ σ1 : L2.St} {H S H1 S1 : Hp} {ρ ρ1 : Nv} {g g1 : G} (I : Good B σ H S ρ g) (I1 : Good B σ1 H1 S1 ρ1 g1) (e : Gr B H S H1 S1) : Good B σ H1 S1 ρ g1 := I.grow e I1.sub I1.dr
def compD (tg : Tg) (cond : Te) (elt : Ex) : List PyData → Nv → G → R (List PyData)
  | [], _, g => .ok [] g
  | d :: ds, ρ, g => match tg d ρ with
    | none => .bad
    | some ρ1 => match cond ρ1 g with
      | .ok true g1 => match elt ρ1 g1 with
        | .ok x g2 => (compD tg cond elt ds ρ g2).bind fun xs g3 => .ok (x :: xs) g3
        | _ => .bad
      | .ok false g1 => compD tg cond elt ds ρ g1
      | _ => .bad
@[simp] def yesT : Te := fun _ g => .ok true g
@[simp] def lcO (fi : Ar) (own : List Nat) (tg : Tg) (cond : Te) (elt : Ex) : Ow := fun ρ g => (fi ρ g).bind fun ds g1 => if ds.length ≤ big then (compD tg cond elt ds (wipeD ρ own) g1).bind fun xs g2 => .ok (.lst xs) g2 else .bad
theorem compD_noex {tg : Tg} {cond : Te} {elt : Ex} : ∀ {ds : List PyData} {ρ : Nv} {g g' : G} {n : Nat}, compD tg cond elt ds ρ g ≠ .ex n g'
  | [], ρ, g, g', n, h => by cases h
  | d :: ds, ρ, g, g', n, h => by
    unfold compD at h
    split at h
    · cases h
    · split at h
      · split at h
        · rename_i x g2 _
          cases e : compD tg cond elt ds _ g2 with
          | ok a g3 => rw [e] at h; cases h
          | ex n2 g3 => exact compD_noex e
          | bad => rw [e] at h; cases h
        · cases h
      · exact compD_noex h
      · cases h
/-- no exception may leave a comprehension's step -/
abbrev W0 : WX := fun _ _ _ _ => False
section
variable {X : Cx} {cls : Nat → Value} {W : WX} {pos : Pos}
theorem PTs_imp {e : List Expr} {t t' : TT} (h : PTs X e t) (hi : ∀ σ H Q, t' σ H Q → t σ H Q) : PTs X e t' := ⟨fun pins s σ H Q I q => h.run pins s σ H Q I (hi _ _ _ q)⟩
theorem ptsd_nil : PTs X [] (tT cls W yesT) := PTs_imp pts_nil fun σ H Q ⟨B, S, ρ, g, I, h⟩ => h H S I .refl
theorem ptsd_one {c : Expr} {f : Te} (h : PT X c (tT cls W f)) : PTs X [c] (tT cls W f) := pts_one h
/-- the reading of a comprehension -/
theorem lc_of {ts own : List Nat} {fi : Ar} {tg : Tg} {cond : Te} {elt : Ex} (hts : ∀ i ∈ ts, i ∈ own) (σ : L2.St) (H : Hp) (Q : VK) (h : tO cls W (lcO fi own tg cond elt) σ H Q) :
    tLc (tI cls W fi) (tG ts tg) (tT cls W0 cond) (tE cls W0 elt) own σ H Q := by
  obtain ⟨B, S, ρ, g, I, h⟩ := h
  unfold lcO at h
  refine ⟨B, S, ρ, g, I, ?_⟩
  cases ei : fi ρ g with
  | bad => rw [ei] at h; exact h
  | ex n g1 => rw [ei] at h; exact h
  | ok ds g1 =>
    rw [ei] at h
    simp only [R.bind_ok] at h
    by_cases hz : ds.length ≤ big
    · rw [if_pos hz] at h
      intro J H1 S1 I1 e1 it D hD
      have nD : H D = none := none_back e1 hD
      have hDA : B.live = true → D ≠ B.A := fun hl z => I1.neA hD hl z.symm
      have xiff : ∀ {H' S' : Hp} {o : HO} {c : Addr}, Exm B (upd H' D o) S' c ↔ Exm B H' S' c := Exm.upd_iff hDA
      obtain ⟨I2, e2⟩ := I1.allocO (o := .lst []) hD
      -- the walk's state: the list so far, what is left
      refine ⟨fun i m H' => i + m = ds.length ∧ ∃ S' g' vs xs, Good B σ H' S' ρ g' ∧ Gr B (upd H1 D (.lst [])) S1 (upd H' D (.lst [])) S' ∧ H' D = some (.lst vs) ∧ S' D = none ∧ Rps S' vs xs ∧ vs.length ≤ i ∧
        OO cls W B σ H S ρ Q ((compD tg cond elt (ds.drop i) (wipeD ρ own) g').bind fun ys g2 => .ok (.lst (xs ++ ys)) g2), ?_, ?_⟩
      · exact ⟨ds.length, by omega, S1, g1, [], [], I2, by rw [upd_upd]; exact .refl, upd_same, I1.stay hD, .nil, Nat.le_refl _, h⟩
      · rintro i m H' ⟨him, S', g', vs, xs, I3, e3, hv, sD, rv, hvl, h3⟩
        have e3' : Same S1 S' := e3.base
        by_cases hi : i < ds.length
        · refine .inr ⟨it.go i H' hi (e3'.trans I3.sub), fun H'' => ∃ m', m' < m ∧ (i + 1 + m' = ds.length ∧ ∃ S' g' vs xs, Good B σ H'' S' ρ g' ∧ Gr B (upd H1 D (.lst [])) S1 (upd H'' D (.lst [])) S' ∧ H'' D = some (.lst vs) ∧ S' D = none ∧ Rps S' vs xs ∧ vs.length ≤ i + 1 ∧
            OO cls W B σ H S ρ Q ((compD tg cond elt (ds.drop (i + 1)) (wipeD ρ own) g').bind fun ys g2 => .ok (.lst (xs ++ ys)) g2)), fun H'' z => z, fun x H4 hy => ?_⟩
          obtain ⟨d, S4, hd, gr1, rd⟩ := it.yld i H' S' x H4 hi e3' I3.sub hy
          obtain ⟨I4, e4⟩ := gr1.good I3
          have hdrop : ds.drop i = d :: ds.drop (i + 1) := by
            rw [List.drop_eq_getElem_cons hi]
            rw [List.getElem?_eq_getElem hi] at hd
            rw [Option.some.inj hd]
          rw [hdrop] at h3
          unfold compD at h3
          have nX' : ¬ Exm B H' S' D := fun x => I1.neX hD (xiff.mp (e3.own D (xiff.mpr x)))
          -- growth goes on beside D
          have step : ∀ {H5 S5 : Hp}, Gr B H' S' H5 S5 → Gr B (upd H1 D (.lst [])) S1 (upd H5 D (.lst [])) S5 := fun {H5 S5} e => by
            refine e3.trans ⟨fun a o q n => ?_, e.base, fun a q => ?_, fun a q => ?_, fun a x => xiff.mpr (e.own a (xiff.mp x))⟩
            · by_cases ha : a = D
              · subst ha; rw [upd_same] at q ⊢; exact q
              · rw [upd_ne ha] at q ⊢; exact e.keep a o q fun x => n (xiff.mpr x)
            · rcases e.new a q with z | z
              · exact .inl z
              · by_cases ha : a = D
                · subst ha; rw [hv] at z; cases z
                · exact .inr (by rw [upd_ne ha]; exact z)
            · by_cases ha : a = D
              · subst ha; rw [upd_same]; simp
              · rw [upd_ne ha] at q ⊢; exact e.there a q
          cases et : tg d (wipeD ρ own) with
          | none => simp only [et, R.bind_bad] at h3; exact False.elim h3
          | some ρ1 =>
            simp only [et] at h3
            refine ⟨_, B, S4, wipeD ρ own, g', d, ρ1, I4.wiped own, rd, et, fun σ1 I5 ch => ⟨by rw [ch.wipe hts]; exact (Chg.wipe (ts := own) ⟨by rw [wipe_length], fun j hj => wipe_out hj⟩ fun _ z => z), B, S4, ρ1, g', I5, ?_⟩⟩
            cases ec : cond ρ1 g' with
            | bad => simp only [ec, R.bind_bad] at h3; exact False.elim h3
            | ex n g5 => simp only [ec, R.bind_bad] at h3; exact False.elim h3
            | ok b g5 =>
              intro H6 S6 I6 e6
              have I6' := (I4.back I6 e6)
              have e46 : Gr B H' S' H6 S6 := e4.trans e6
              cases b with
              | false =>
                rw [if_neg Bool.false_ne_true]
                simp only [ec] at h3
                exact ⟨m - 1, by omega, by omega, S6, g5, vs, xs, I6', step e46, e46.keep D _ hv nX', none_of e46 (by rw [hv]; simp) sD, rv.mono e46.base, by omega, h3⟩
              | true =>
                rw [if_pos rfl]
                simp only [ec] at h3
                refine ⟨B, S6, ρ1, g5, I6, ?_⟩
                cases ee : elt ρ1 g5 with
                | bad => simp only [ee, R.bind_bad] at h3; exact False.elim h3
                | ex n g6 => simp only [ee, R.bind_bad] at h3; exact False.elim h3
                | ok y g6 =>
                  simp only [ee] at h3
                  intro v H7 S7 I7 e7 r7
                  have I7' := I6'.back I7 e7
                  have e77 : Gr B H' S' H7 S7 := e46.trans e7
                  have hD7 := e77.keep D _ hv nX'
                  have nX7 : ¬ Exm B H7 S7 D := fun x => nX' (e77.own D x)
                  have sD7 := none_of e77 (by rw [hv]; simp) sD
                  refine ⟨vs, hD7, big_lt (by omega), m - 1, by omega, by omega, S7, g6, vs ++ [v], xs ++ [y], ?_, by rw [upd_upd]; exact step e77, upd_same, sD7, (rv.mono e77.base).append (.cons r7 .nil), by rw [List.length_append]; exact Nat.succ_le_succ hvl, ?_⟩
                  · -- the list at D is nobody's
                    have eD : Gr B H7 S7 (upd H7 D (.lst (vs ++ [v]))) S7 ∨ True := .inr trivial
                    refine ⟨⟨fun a o q => ?_, fun a o q n => ?_, I7'.base, I7'.new, fun a q => ?_, I7'.no, ?_, fun a h x => I7'.own a h (xiff.mp x)⟩, I7'.len, I7'.sh, I7'.dw, I7'.sw, fun j b q => ?_, I7'.ap, I7'.mxMove (Same.refl _) (fun i b h => ⟨⟨b, h⟩, rfl⟩) (fun i rows h => h) (fun j rows a' q k => ?_) fun j rows a' cs _ q k k3 x hx => ?_⟩
                    · rw [upd_ne (ne_of_none q sD7)]; exact I7'.sub _ _ q
                    · have hB : B.H D = none := by
                        cases z : B.H D with
                        | none => rfl
                        | some u => exact absurd nD (I.there D (by rw [z]; simp))
                      rw [upd_ne (ne_of_none q hB)]; exact I7'.keep a o q n
                    · by_cases ha : a = D
                      · subst ha; rw [upd_same]; simp
                      · rw [upd_ne ha]; exact I7'.there a q
                    · exact I7'.dr.mono (Same.refl _) (fun a x => upd_ne fun z => nX7 (by rw [← z]; exact x)) fun _ _ z => z
                    · obtain ⟨a, o, h1, h2, h4, h5, h6, h7⟩ := I7'.ow j b q
                      obtain ⟨a', o', k1, _, _, _, k5, _⟩ := I.ow j b q
                      have ea : a' = a := by
                        rw [h1] at k1
                        injection k1 with k1
                        injection k1 with k1
                        injection k1 with k1
                        exact k1.symm
                      subst ea
                      have hne : a' ≠ D := fun z => by rw [z, nD] at k5; cases k5
                      exact ⟨a', o, h1, h2, fun x => h4 (xiff.mp x), h5, by rw [upd_ne hne]; exact h6, h7⟩
                    · obtain ⟨a0, o, k1, _, _, _, k5, _⟩ := I.ow j _ q
                      have ea := addr_of k k1
                      subst ea
                      have hne : a' ≠ D := fun z => by rw [z, nD] at k5; cases k5
                      exact upd_ne hne
                    · have g7 := (I7'.mx j rows a' cs q k k3).1.row (I7'.rowsAt q k k3) hx
                      have hne : x ≠ D := fun z => by
                        subst z
                        obtain ⟨a0, o0, l1, _, l3, _, l5, _⟩ := I.ow j _ q
                        have ea := addr_of k l1
                        subst ea
                        have hne : a' ≠ x := fun z => by rw [z, nD] at l5; cases l5
                        have l7 := e3.keep a' o0 (by rw [upd_ne hne]; exact e1.keep a' o0 l5 l3) fun x => l3 (e1.own _ (xiff.mp x))
                        rw [upd_ne hne] at l7
                        have l6 := e77.keep a' o0 l7 fun x => l3 (e1.own _ (xiff.mp (e3.own _ (xiff.mpr x))))
                        rw [k3] at l6
                        rw [← l6] at l5
                        exact ((I.mx j rows a' cs q k l5).1.row (I.rowsAt q k l5) hx).2.2.2 nD
                      exact ⟨upd_ne hne, g7.1, xiff.mp⟩
                  · cases eR : compD tg cond elt (ds.drop (i + 1)) (wipeD ρ own) g6 with
                    | bad => rw [eR] at h3; exact h3
                    | ex n g7 => exact absurd eR compD_noex
                    | ok ys g7 =>
                      rw [eR] at h3
                      simp only [R.bind_ok] at h3 ⊢
                      rw [List.append_assoc]
                      exact h3
        · have hdrop : ds.drop i = [] := List.drop_eq_nil_of_le (by omega)
          rw [hdrop] at h3
          simp only [compD, R.bind_ok, List.append_nil] at h3
          refine .inl ⟨it.stop i H' (by omega) (e3'.trans I3.sub), ?_⟩
          refine h3 D (.lst vs) H' S' I3 ?_ sD nD hv (.lst rv)
          refine e1.trans ⟨fun a o q n => ?_, e3.base, fun a q => ?_, fun a q => ?_, fun a x => xiff.mp (e3.own a (xiff.mpr x))⟩
          · have ha : a ≠ D := ne_of_none q hD
            have z := e3.keep a o (by rw [upd_ne ha]; exact q) fun x => n (xiff.mp x)
            rw [upd_ne ha] at z
            exact z
          · rcases e3.new a q with z | z
            · exact .inl z
            · by_cases ha : a = D
              · subst ha; exact .inr hD
              · rw [upd_ne ha] at z; exact .inr z
          · by_cases ha : a = D
            · subst ha; rw [hv]; simp
            · have z := e3.there a (by rw [upd_ne ha]; exact q)
              rw [upd_ne ha] at z
              exact z
    · rw [if_neg hz] at h
      exact False.elim h
theorem po_lc {elt tg iter : Expr} {ifs : List Expr} {scope : Scope} {own : List (Str × Nat)} {ts : List Nat} {fi : Ar} {ft : Tg} {fc : Te} {fe : Ex} (hc : X.calm = true) (hN : X.N.Nodup) (hi : PI X tg iter (tI cls W fi)) (ok : BlkOk X.N X.env.scope scope own)
    (hg : ∀ (s : Shared) (H : Hp) (C : Addr) (cl : List (Str × Addr)) (fp : List Addr), PG (X.blk s H scope (compEnvC scope cl C X.env) fp) tg (tG ts ft)) (ht : ∀ (s : Shared) (H : Hp) (C : Addr) (cl : List (Str × Addr)) (fp : List Addr), PTs (X.blk s H scope (compEnvC scope cl C X.env) fp) ifs (tT cls W0 fc))
    (he : ∀ (s : Shared) (H : Hp) (C : Addr) (cl : List (Str × Addr)) (fp : List Addr), PE (X.blk s H scope (compEnvC scope cl C X.env) fp) elt (tE cls W0 fe)) (hts : ∀ i ∈ ts, i ∈ own.map (·.2) := by decide) (hs : ∀ x, foldedSetIterable iter X.env x = pure x := by intro _; rfl) :
    PE X (.ListComp elt [⟨tg, iter, ifs, 0⟩] scope pos) (tO cls W (lcO fi (own.map (·.2)) ft fc fe)) := PE_imp (pe_lc hc hN hi ok hg ht he hs) (lc_of hts)
end
end DL

set_option Elab.async false
set_option linter.all false
set_option maxRecDepth 100000
set_option maxHeartbeats 400000
namespace DL
open PySem PySem.Spec PyProof.Rows L2
variable {cls : Nat → Value}

/-! ### statements -/
inductive SR where
  | nx (ρ : Nv) (g : G) | rt (d : PyData) (g : G) | bk (ρ : Nv) (g : G) | ct (ρ : Nv) (g : G) | ex (n : Nat) (ρ : Nv) (g : G) | bad
abbrev Sm := Nv → G → SR
section
variable (cls : Nat → Value) (W : WX)
def SO (B : Bs cls) (S : Hp) (D : Ends) : SR → Prop
  | .nx ρ g => ∀ σ' H' S', Good B σ' H' S' ρ g → Same S S' → D.nx σ' H'
  | .rt d g => ∀ v H' S', Fin B H' S' g → Rp S' v d → D.rt v H'
  | .bk ρ g => ∀ σ' H' S', Good B σ' H' S' ρ g → Same S S' → D.bk σ' H'
  | .ct ρ g => ∀ σ' H' S', Good B σ' H' S' ρ g → Same S S' → D.ct σ' H'
  | .ex n ρ g => ∀ σ' H' S', Good B σ' H' S' ρ g → Same S S' → W (cls n) none σ' H'
  | .bad => False
def tS (s : Sm) : TS := fun D σ H => ∃ B S ρ g, Good B σ H S ρ g ∧ SO cls W B S D (s ρ g)
end
section
variable {X : Cx} {cls : Nat → Value} {W : WX} {pos : Pos} {a b c : Expr} {fa fb fc : Ex} {D : Ends} {σ : L2.St} {H : Hp} {st : Stmt} {rest : List Stmt}
theorem SO_gr {B : Bs cls} {S S1 : Hp} {r : SR} (e : Same S S1) (h : SO cls W B S D r) : SO cls W B S1 D r := by
  cases r with
  | nx ρ g => exact fun σ' H' S' I u => h σ' H' S' I (e.trans u)
  | rt d g => exact h
  | bk ρ g => exact fun σ' H' S' I u => h σ' H' S' I (e.trans u)
  | ct ρ g => exact fun σ' H' S' I u => h σ' H' S' I (e.trans u)
  | ex n ρ g => exact fun σ' H' S' I u => h σ' H' S' I (e.trans u)
  | bad => exact h
@[simp] def stE (f : Ex) (k : PyData → Sm) : Sm := fun ρ g => match f ρ g with
  | .ok d g1 => k d ρ g1
  | .ex n g1 => .ex n ρ g1
  | .bad => .bad
theorem st_of {f : Ex} {k : PyData → Sm} {Q : VK} (h : tS cls W (stE f k) D σ H) (hq : ∀ B S ρ g d v H1, Good B σ H1 S ρ g → Rp S v d → SO cls W B S D (k d ρ g) → Q v H1) : tE cls W f σ H Q := by
  obtain ⟨B, S, ρ, g, I, h⟩ := h
  unfold stE at h
  refine ⟨B, S, ρ, g, I, ?_⟩
  cases ea : f ρ g with
  | bad => rw [ea] at h; exact h
  | ex n g1 =>
    rw [ea] at h
    exact fun H' S' I' e => h σ H' S' I' e.base
  | ok x g1 =>
    rw [ea] at h
    exact fun v H1 S1 I1 e1 r1 => hq B S1 ρ g1 x v H1 I1 r1 (SO_gr e1.base h)
def setS (i : Nat) (f : Ex) : Sm := stE f fun d ρ g => .nx (ρ.set i (.sh d)) g
theorem psd_set (i : Nat) {x : Str} {pos' : Pos} (hN : X.N.Nodup) (ha : PE X a (tE cls W fa)) (hi : X.N[i]? = some x := by rfl) (hx : Loc X.env.scope x := by first | exact Or.inl rfl | exact Or.inr rfl) (hs : swapsWith a (some (.Name x pos')) pos.line X.env = pure false := by rfl)
    (hf : X.fn x = true ∨ X.env.scope.names.lookup x = some .local := by first | exact .inl rfl | exact .inr rfl | assumption) : PS X (.Assign [.Name x pos'] a pos) (tS cls W (setS i fa)) :=
  PS_imp (ps_set hN hi hx ha hs hf) fun D σ H h => st_of h fun B S ρ g d v H1 I r q => q _ _ _ (I.setSh i r) (Same.refl _)
def asgS (f : Ex) (t : Tg) : Sm := stE f fun d ρ g => match t d ρ with
  | some ρ1 => .nx ρ1 g
  | none => .bad
theorem psd_asg {tg : Expr} {ts : List Nat} {t : Tg} (ha : PE X a (tE cls W fa)) (hg : PG X tg (tG ts t)) (hs : swapsWithSole [tg] a pos.line X.env = pure false := by rfl) (hw : swappedStores [tg] a X.env = pure none := by rfl)
    (h1 : (assignEach [tg] X.env).map (·.2) = [assign tg X.env] := by rfl) : PS X (.Assign [tg] a pos) (tS cls W (asgS fa t)) :=
  PS_imp (ps_asg ha hg hs hw h1) fun D σ H h => st_of h fun B S ρ g d v H1 I r q => by
    cases et : t d ρ with
    | none => simp only [et] at q; exact False.elim q
    | some ρ1 =>
      simp only [et] at q
      exact ⟨_, B, S, ρ, g, d, ρ1, I, r, et, fun σ' I' _ => q _ _ _ I' (Same.refl _)⟩
def dropS (f : Ex) : Sm := stE f fun _ ρ g => .nx ρ g
theorem psd_expr (ha : PE X a (tE cls W fa)) (hs : swapsWith a none pos.line X.env = pure false := by rfl) : PS X (.Expr a pos) (tS cls W (dropS fa)) :=
  PS_imp (ps_expr ha hs) fun D σ H h => st_of h fun B S ρ g d v H1 I r q => q _ _ _ I (Same.refl _)
def retS (f : Ex) : Sm := stE f fun d _ g => .rt d g
theorem psd_ret (ha : PE X a (tE cls W fa)) : PS X (.Return (some a) pos) (tS cls W (retS fa)) :=
  PS_imp (ps_ret ha) fun D σ H h => st_of h fun B S ρ g d v H1 I r q => q _ _ _ I.toFin r
@[simp] def nextS : Sm := fun ρ g => .nx ρ g
theorem psd_pass : PS X (.Pass pos) (tS cls W nextS) := PS_imp ps_pass fun D σ H ⟨B, S, ρ, g, I, h⟩ => h _ _ _ I (Same.refl _)
theorem psd_break : PS X (.Break pos) (tS cls W fun ρ g => .bk ρ g) := PS_imp ps_break fun D σ H ⟨B, S, ρ, g, I, h⟩ => h _ _ _ I (Same.refl _)
theorem psd_continue : PS X (.Continue pos) (tS cls W fun ρ g => .ct ρ g) := PS_imp ps_continue fun D σ H ⟨B, S, ρ, g, I, h⟩ => h _ _ _ I (Same.refl _)
@[simp] def seqS (s t : Sm) : Sm := fun ρ g => match s ρ g with
  | .nx ρ1 g1 => t ρ1 g1
  | r => r
theorem pssd_nil : PSs X [] (tS cls W nextS) := PSs_imp pss_nil fun D σ H ⟨B, S, ρ, g, I, h⟩ => h _ _ _ I (Same.refl _)
theorem pssd_cons {s t : Sm} (h1 : PS X st (tS cls W s)) (h2 : PSs X rest (tS cls W t)) : PSs X (st :: rest) (tS cls W (seqS s t)) := PSs_imp (pss_cons h1 h2) fun D σ H ⟨B, S, ρ, g, I, h⟩ => by
  unfold seqS at h
  refine ⟨B, S, ρ, g, I, ?_⟩
  cases es : s ρ g with
  | nx ρ1 g1 =>
    rw [es] at h
    exact fun σ' H' S' I' e => ⟨B, S', ρ1, g1, I', SO_gr e h⟩
  | rt d g1 => rw [es] at h; exact h
  | bk ρ1 g1 => rw [es] at h; exact h
  | ct ρ1 g1 => rw [es] at h; exact h
  | ex n ρ1 g1 => rw [es] at h; exact h
  | bad => rw [es] at h; exact h
theorem pssd_one {s : Sm} (h1 : PS X st (tS cls W s)) : PSs X [st] (tS cls W s) := pss_one h1
@[simp] def ifS (c : Te) (s t : Sm) : Sm := fun ρ g => match c ρ g with
  | .ok true g1 => s ρ g1
  | .ok false g1 => t ρ g1
  | .ex n g1 => .ex n ρ g1
  | .bad => .bad
theorem psd_if {ss ts : List Stmt} {tc : Te} {s t : Sm} (hc : PT X c (tT cls W tc)) (hs : PSs X ss (tS cls W s)) (ht : PSs X ts (tS cls W t)) : PS X (.If c ss ts pos) (tS cls W (ifS tc s t)) := PS_imp (ps_if hc hs ht) fun D σ H ⟨B, S, ρ, g, I, h⟩ => by
  unfold ifS at h
  refine ⟨B, S, ρ, g, I, ?_⟩
  cases es : tc ρ g with
  | bad => rw [es] at h; exact h
  | ex n g1 => rw [es] at h; exact fun H' S' I' e => h _ _ _ I' e.base
  | ok k g1 =>
    rw [es] at h
    intro H1 S1 I1 e1
    cases k with
    | true => exact ⟨B, S1, ρ, g1, I1, SO_gr e1.base h⟩
    | false => exact ⟨B, S1, ρ, g1, I1, SO_gr e1.base h⟩
/-- two names at once, from the right -/
@[simp] def parS (i j : Nat) (f k : Ex) : Sm := fun ρ g => match (f ρ g).bind fun x g1 => (k ρ g1).bind fun y g2 => R.ok (x, y) g2 with
  | .ok (x, y) g1 => .nx ((ρ.set i (.sh x)).set j (.sh y)) g1
  | .ex n g1 => .ex n ρ g1
  | .bad => .bad
theorem psd_par (i j : Nat) {x y : Str} {px py pt : Pos} {kt k2 pt2} (hc : X.calm = true) (hN : X.N.Nodup) (ha : PE X a (tE cls W fa)) (hb : PE X b (tE cls W fb)) (hi : X.N[i]? = some x := by rfl) (hj : X.N[j]? = some y := by rfl) (hij : i ≠ j := by decide)
    (hx : X.env.scope.names.lookup x = some .local := by rfl) (hy : X.env.scope.names.lookup y = some .local := by rfl)
    (hw : swappedStores [.Tuple [.Name x px, .Name y py] kt pt] (.Tuple [a, b] k2 pt2) X.env = pure (some [x, y]) := by rfl)
    (hs : swapsWithSole [.Tuple [.Name x px, .Name y py] kt pt] (.Tuple [a, b] k2 pt2) pos.line X.env = pure false := by rfl) (hsa : starEach [a, b] X.env = (false, eval a X.env) :: starEach [b] X.env := by rfl) (hsb : starEach [b] X.env = (false, eval b X.env) :: starEach [] X.env := by rfl) :
    PS X (.Assign [.Tuple [.Name x px, .Name y py] kt pt] (.Tuple [a, b] k2 pt2) pos) (tS cls W (parS i j fa fb)) :=
  PS_imp (ps_par hc hN hi hj hij hx hy (pa_cons ha (pa_cons hb pa_nil hsb) hsa) hw hs) fun D σ H ⟨B, S, ρ, g, I, h⟩ => by
    unfold parS at h
    refine ⟨B, S, ρ, g, I, ?_⟩
    cases ea : fa ρ g with
    | bad => rw [ea] at h; exact h
    | ex n g1 => rw [ea] at h; exact fun H' S' I' e => h _ _ _ I' e.base
    | ok u g1 =>
      rw [ea] at h
      intro v H1 S1 I1 e1 r1
      refine ⟨B, S1, ρ, g1, I1, ?_⟩
      simp only [R.bind_ok] at h
      cases eb : fb ρ g1 with
      | bad => rw [eb] at h; exact h
      | ex n g2 => rw [eb] at h; exact fun H' S' I' e => h _ _ _ I' (e1.base.trans e.base)
      | ok z g2 =>
        rw [eb] at h
        simp only [R.bind_ok] at h
        intro w H2 S2 I2 e2 r2
        exact ⟨v, w, rfl, h _ _ _ ((I2.setSh i (r1.mono e2.base)).setSh j r2) (e1.base.trans e2.base)⟩
end

/-! ### things of one's own -/
section
variable {B : Bs cls} {σ : L2.St} {H S : Hp} {ρ : Nv} {g : G}
/-- a thing of one's own is changed -/
theorem Good.mutO (I : Good B σ H S ρ g) {i : Nat} {b b' : Ob} {a : Addr} {o' : HO} (hi : ρ[i]? = some (.ow b)) (ha : σ[i]? = some (some (.ref a))) (r : ObAt S a b' o') (nm : ∀ rows, b' ≠ .mat rows) : Good B σ (upd H a o') S (ρ.set i (.ow b')) g := by
  obtain ⟨a', o, h1, h2, h3, h4, h5, h6⟩ := I.ow i b hi
  have e := addr_of ha h1
  subst e
  have hA : B.live = true → a ≠ B.A := fun hl z => h3 ⟨hl, .inl z⟩
  have xiff : ∀ {o : HO} {c : Addr}, Exm B (upd H a o) S c ↔ Exm B H S c := Exm.upd_iff hA
  have nX : ∀ c, Exm B H S c → c ≠ a := fun c x z => h3 (by rw [← z]; exact x)
  have hl : i < ρ.length := (List.getElem?_eq_some_iff.mp hi).1
  have key : ∀ (j : Nat) (z : Sl), (ρ.set i (.ow b'))[j]? = some z → (j = i ∧ z = .ow b') ∨ (j ≠ i ∧ ρ[j]? = some z) := fun j z h => by
    by_cases hj : j = i
    · subst hj
      rw [List.getElem?_set_self hl] at h
      exact .inl ⟨rfl, (Option.some.inj h).symm⟩
    · rw [List.getElem?_set_ne (Ne.symm hj)] at h
      exact .inr ⟨hj, h⟩
  have isow : ∀ (j : Nat) (c : Ob), (ρ.set i (.ow b'))[j]? = some (.ow c) → ∃ c', ρ[j]? = some (.ow c') := fun j c h => by
    rcases key j _ h with ⟨rfl, _⟩ | ⟨_, h⟩
    · exact ⟨b, hi⟩
    · exact ⟨c, h⟩
  refine ⟨⟨fun c o q => ?_, fun c o q n => ?_, I.base, I.new, fun c q => ?_, I.no, I.dr.mono (Same.refl _) (fun c x => upd_ne (nX c x)) (fun _ _ z => z), fun c h x => I.own c h (xiff.mp x)⟩, by rw [List.length_set]; exact I.len, fun j d h => ?_, fun j {_} h => ?_, fun j n h => ?_, fun j c h => ?_, fun j l c d x k1 k2 k3 k4 => ?_, I.mxMove (Same.refl _) (fun j c h => ⟨isow j c h, rfl⟩) (fun j rows h => ?_) (fun j rows x h h' => ?_) fun j rows x cs _ h h' h2' c hc => ?_⟩
  · rw [upd_ne (ne_of_none q h2)]; exact I.sub _ _ q
  · rw [upd_ne (ne_of_none q h4)]; exact I.keep c o q n
  · by_cases hc : c = a
    · subst hc; rw [upd_same]; simp
    · rw [upd_ne hc]; exact I.there c q
  · rcases key j _ h with ⟨rfl, e⟩ | ⟨_, h⟩
    · cases e
    · exact I.sh j d h
  · rcases key j _ h with ⟨rfl, e⟩ | ⟨_, h⟩
    · cases e
    · exact I.dw j h
  · rcases key j _ h with ⟨rfl, e⟩ | ⟨_, h⟩
    · cases e
    · exact I.sw j n h
  · rcases key j _ h with ⟨rfl, e⟩ | ⟨hj, h⟩
    · cases e
      exact ⟨a, o', ha, h2, fun x => h3 (xiff.mp x), h4, upd_same, r⟩
    · obtain ⟨x, u, q1, q2, q3, q4, q5, q6⟩ := I.ow j c h
      have hx : x ≠ a := fun z => hj (I.ap j i c b a h hi (by rw [q1, z]) ha)
      exact ⟨x, u, q1, q2, fun z => q3 (xiff.mp z), q4, by rw [upd_ne hx]; exact q5, q6⟩
  · obtain ⟨c', k1⟩ := isow j c k1
    obtain ⟨d', k2⟩ := isow l d k2
    exact I.ap j l c' d' x k1 k2 k3 k4
  · rcases key j _ h with ⟨rfl, e⟩ | ⟨_, h⟩
    · injection e with e
      exact absurd e.symm (nm rows)
    · exact h
  · rcases key j _ h with ⟨rfl, e⟩ | ⟨hj, h⟩
    · injection e with e
      exact absurd e.symm (nm rows)
    · exact upd_ne fun z => hj (I.ap j i _ b a h hi (by rw [h', z]) ha)
  · obtain ⟨R, A1, _⟩ := I.mx j rows x cs h h' h2'
    exact ⟨upd_ne fun z => A1 i b a hi ha (by rw [← z]; exact hc), (R.row (I.rowsAt h h' h2') hc).1, xiff.mp⟩
/-- a thing of one's own becomes a datum -/
theorem Good.shutX (I : Good B σ H S ρ g) {i : Nat} {b : Ob} {dd : PyData} (hi : ρ[i]? = some (.ow b)) (hr : ∀ (S' : Hp) (a : Addr) (o : HO), S' a = some o → ObAt S' a b o → Rp S' (.ref a) dd) : ∃ a o, σ[i]? = some (some (.ref a)) ∧ H a = some o ∧ S a = none ∧ Same S (upd S a o) ∧ Good B σ H (upd S a o) (ρ.set i (.sh dd)) g := by
  obtain ⟨a, o, h1, h2, h3, h4, h5, h6⟩ := I.ow i _ hi
  have hl : i < ρ.length := (List.getElem?_eq_some_iff.mp hi).1
  have sm : Same S (upd S a o) := fun c u q => by rw [upd_ne (ne_of_none q h2)]; exact q
  have bk : ∀ {c : Addr}, Exm B H (upd S a o) c → Exm B H S c := fun x => x.back sm fun _ => rfl
  have nX : ∀ c, Exm B H S c → c ≠ a := fun c x z => h3 (by rw [← z]; exact x)
  have key : ∀ (j : Nat) (z : Sl), (ρ.set i (.sh dd))[j]? = some z → (j = i ∧ z = .sh dd) ∨ (j ≠ i ∧ ρ[j]? = some z) := fun j z h => by
    by_cases hj : j = i
    · subst hj
      rw [List.getElem?_set_self hl] at h
      exact .inl ⟨rfl, (Option.some.inj h).symm⟩
    · rw [List.getElem?_set_ne (Ne.symm hj)] at h
      exact .inr ⟨hj, h⟩
  refine ⟨a, o, h1, h5, h2, sm, ⟨fun c u q => ?_, I.keep, I.base.trans sm, fun c q => ?_, I.there, fun hl => by rw [upd_ne fun z => h3 ⟨hl, .inl z.symm⟩]; exact I.no hl, I.dr.mono sm (fun _ _ => rfl) (fun c x z => by rw [upd_ne (nX c x)]; exact z), fun c h x => I.own c h (bk x)⟩, by rw [List.length_set]; exact I.len, fun j d h => ?_, fun j {_} h => ?_, fun j n h => ?_, fun j c h => ?_, fun j l c d x k1 k2 k3 k4 => ?_, I.mxMove sm (fun j c h => ?_) (fun j rows h => ?_) (fun _ _ _ _ _ => rfl) fun j rows x cs _ h h' h2' c hc => ⟨rfl, ?_, bk⟩⟩
  · by_cases hc : c = a
    · subst hc; rw [upd_same] at q; rw [← q]; exact h5
    · rw [upd_ne hc] at q; exact I.sub _ _ q
  · by_cases hc : c = a
    · subst hc; exact .inr h4
    · rw [upd_ne hc] at q; exact I.new c q
  · rcases key j _ h with ⟨rfl, e⟩ | ⟨_, h⟩
    · cases e
      exact ⟨.ref a, h1, hr _ a o upd_same (h6.mono sm)⟩
    · obtain ⟨v, q1, q2⟩ := I.sh j d h
      exact ⟨v, q1, q2.mono sm⟩
  · rcases key j _ h with ⟨rfl, e⟩ | ⟨_, h⟩
    · cases e
    · exact I.dw j h
  · rcases key j _ h with ⟨rfl, e⟩ | ⟨_, h⟩
    · cases e
    · exact I.sw j n h
  · rcases key j _ h with ⟨rfl, e⟩ | ⟨hj, h⟩
    · cases e
    · obtain ⟨x, u, q1, q2, q3, q4, q5, q6⟩ := I.ow j c h
      have hx : x ≠ a := fun z => hj (I.ap j i c _ a h hi (by rw [q1, z]) h1)
      exact ⟨x, u, q1, by rw [upd_ne hx]; exact q2, fun z => q3 (bk z), q4, q5, q6.mono sm⟩
  · rcases key j _ k1 with ⟨rfl, e⟩ | ⟨_, k1⟩
    · cases e
    · rcases key l _ k2 with ⟨rfl, e⟩ | ⟨_, k2⟩
      · cases e
      · exact I.ap j l c d x k1 k2 k3 k4
  · rcases key j _ h with ⟨rfl, e⟩ | ⟨_, h⟩
    · cases e
    · exact ⟨⟨c, h⟩, rfl⟩
  · rcases key j _ h with ⟨rfl, e⟩ | ⟨_, h⟩
    · cases e
    · exact h
  · obtain ⟨R, A1, _⟩ := I.mx j rows x cs h h' h2'
    rw [upd_ne fun z => A1 i _ a hi h1 (by rw [← z]; exact hc)]
    exact (R.row (I.rowsAt h h' h2') hc).1
theorem Good.shutG (I : Good B σ H S ρ g) {i : Nat} {b : Ob} {dd : PyData} (hi : ρ[i]? = some (.ow b)) (hr : ∀ (S' : Hp) (a : Addr) (o : HO), S' a = some o → ObAt S' a b o → Rp S' (.ref a) dd) : ∃ S', Same S S' ∧ Good B σ H S' (ρ.set i (.sh dd)) g := by
  obtain ⟨a, o, _, _, _, h1, h2⟩ := I.shutX hi hr
  exact ⟨_, h1, h2⟩
theorem Good.shut (I : Good B σ H S ρ g) {i : Nat} {ds : List PyData} (hi : ρ[i]? = some (.ow (.lst ds))) : ∃ S', Same S S' ∧ Good B σ H S' (ρ.set i (.sh (.list ds))) g :=
  I.shutG hi fun S' a o e r => by
    cases r with
    | lst r => exact .lst e r
/-- a name takes a thing that nobody else holds -/
theorem Good.setOw {H0 S0 : Hp} {g0 : G} (I0 : Good B σ H0 S0 ρ g0) (I : Good B σ H S ρ g) (gr : Gr B H0 S0 H S) {i : Nat} {b : Ob} {a : Addr} {o : HO} (n1 : S a = none) (n2 : H0 a = none) (ho : H a = some o) (r : ObAt S a b o) (nm : ∀ rows, b ≠ .mat rows) : Good B (σ.set i (some (.ref a))) H S (ρ.set i (.ow b)) g := by
  have key : ∀ (j : Nat) (z : Sl), (ρ.set i (.ow b))[j]? = some z → (j = i ∧ z = .ow b ∧ i < ρ.length) ∨ (j ≠ i ∧ ρ[j]? = some z) := fun j z h => by
    by_cases hj : j = i
    · subst hj
      by_cases hl : j < ρ.length
      · rw [List.getElem?_set_self hl] at h
        exact .inl ⟨rfl, (Option.some.inj h).symm, hl⟩
      · rw [List.getElem?_eq_none (by rw [List.length_set]; exact Nat.le_of_not_lt hl)] at h
        cases h
    · rw [List.getElem?_set_ne (Ne.symm hj)] at h
      exact .inr ⟨hj, h⟩
  have at_ne : ∀ j, j ≠ i → (σ.set i (some (V.ref a)))[j]? = σ[j]? := fun j hj => List.getElem?_set_ne (Ne.symm hj)
  have other : ∀ (j : Nat) (c : Ob), ρ[j]? = some (.ow c) → σ[j]? ≠ some (some (.ref a)) := fun j c h z => by
    obtain ⟨x, u, q1, _, _, _, q5, _⟩ := I0.ow j c h
    have e := addr_of z q1
    subst e
    rw [n2] at q5
    cases q5
  refine ⟨I.toFin, by rw [List.length_set, List.length_set]; exact I.len, fun j d' h => ?_, fun j {_} h => ?_, fun j n h => ?_, fun j c h => ?_, fun j l c d x h1 h2 h3 h4 => ?_, fun j rows x cs h h' h2' => ?_⟩
  · rcases key j _ h with ⟨rfl, e, hl⟩ | ⟨hj, h⟩
    · cases e
    · rw [at_ne j hj]; exact I.sh j d' h
  · rcases key j _ h with ⟨rfl, e, hl⟩ | ⟨hj, h⟩
    · cases e
    · rw [at_ne j hj]; exact I.dw j h
  · rcases key j _ h with ⟨rfl, e, hl⟩ | ⟨hj, h⟩
    · cases e
    · rw [at_ne j hj]; exact I.sw j n h
  · rcases key j _ h with ⟨rfl, e, hl⟩ | ⟨hj, h⟩
    · cases e
      refine ⟨a, o, List.getElem?_set_self (by rw [I.len]; exact hl), n1, fun x => I0.neX n2 (gr.own a x), ?_, ho, r⟩
      cases q : B.H a with
      | none => rfl
      | some u => exact absurd n2 (I0.there a (by rw [q]; simp))
    · rw [at_ne j hj]; exact I.ow j c h
  · rcases key j _ h1 with ⟨ej, e, hl⟩ | ⟨hj, k1⟩
    · rcases key l _ h2 with ⟨el, e2, hl2⟩ | ⟨hl2, k2⟩
      · rw [ej, el]
      · rw [ej, List.getElem?_set_self (by rw [I.len]; exact hl)] at h3
        rw [at_ne l hl2] at h4
        injection h3 with h3
        injection h3 with h3
        injection h3 with h3
        subst h3
        exact absurd h4 (other l d k2)
    · rcases key l _ h2 with ⟨el, e2, hl2⟩ | ⟨hl2, k2⟩
      · rw [el, List.getElem?_set_self (by rw [I.len]; exact hl2)] at h4
        rw [at_ne j hj] at h3
        injection h4 with h4
        injection h4 with h4
        injection h4 with h4
        subst h4
        exact absurd h3 (other j c k1)
      · rw [at_ne j hj] at h3
        rw [at_ne l hl2] at h4
        exact I.ap j l c d x k1 k2 h3 h4
  · rcases key j _ h with ⟨_, e, _⟩ | ⟨hj, h⟩
    · injection e with e
      exact absurd e.symm (nm rows)
    · rw [at_ne j hj] at h'
      obtain ⟨R, A1, A2⟩ := I.mx j rows x cs h h' h2'
      refine ⟨R, fun l c y k1 k2 hy => ?_, fun l rows' y cs' hl k1 k2 k3 => ?_⟩
      · rcases key l _ k1 with ⟨el, _, hl⟩ | ⟨hl, k1⟩
        · rw [el, List.getElem?_set_self (by rw [I.len]; exact hl)] at k2
          injection k2 with k2
          injection k2 with k2
          injection k2 with k2
          subst k2
          obtain ⟨x0, o0, l1, _, l3, _, l5, _⟩ := I0.ow j _ h
          have q := addr_of h' l1
          subst q
          have l6 := gr.keep x o0 l5 l3
          rw [h2'] at l6
          rw [← l6] at l5
          exact ((I0.mx j rows x cs h h' l5).1.row (I0.rowsAt h h' l5) hy).2.2.2 n2
        · rw [at_ne l hl] at k2
          exact A1 l c y k1 k2 hy
      · rcases key l _ k1 with ⟨_, e, _⟩ | ⟨hl', k1⟩
        · injection e with e
          exact absurd e.symm (nm rows')
        · rw [at_ne l hl'] at k2
          exact A2 l rows' y cs' hl k1 k2 k3
end
section
variable {X : Cx} {cls : Nat → Value} {W : WX} {pos : Pos} {a b c : Expr} {fa fb fc : Ex} {D : Ends} {σ : L2.St} {H : Hp} {st : Stmt} {rest : List Stmt}
@[simp] def notMat : Ob → Bool
  | .mat _ => false
  | _ => true
@[simp] def setOS (i : Nat) (f : Ow) : Sm := fun ρ g => match f ρ g with
  | .ok b g1 => if notMat b = true then .nx (ρ.set i (.ow b)) g1 else .bad
  | .ex n g1 => .ex n ρ g1
  | .bad => .bad
theorem setOS_of {i : Nat} {f : Ow} (h : tS cls W (setOS i f) D σ H) : tO cls W f σ H fun x H1 => D.nx (σ.set i (some x)) H1 := by
  obtain ⟨B, S, ρ, g, I, h⟩ := h
  unfold setOS at h
  refine ⟨B, S, ρ, g, I, ?_⟩
  cases ea : f ρ g with
  | bad => rw [ea] at h; exact h
  | ex n g1 => rw [ea] at h; exact fun H' S' I' e => h σ H' S' I' e.base
  | ok b g1 =>
    rw [ea] at h
    simp only at h
    by_cases hn : notMat b = true
    · rw [if_pos hn] at h
      exact fun a o H1 S1 I1 e1 n1 n2 ho r => h _ _ _ (I.setOw I1 e1 n1 n2 ho r fun rows z => by rw [z] at hn; cases hn) e1.base
    · rw [if_neg hn] at h
      exact False.elim h
theorem psd_setO (i : Nat) {x : Str} {pos' : Pos} {fo : Ow} (hN : X.N.Nodup) (ha : PE X a (tO cls W fo)) (hi : X.N[i]? = some x := by rfl) (hx : Loc X.env.scope x := by first | exact Or.inl rfl | exact Or.inr rfl) (hs : swapsWith a (some (.Name x pos')) pos.line X.env = pure false := by rfl)
    (hf : X.fn x = true ∨ X.env.scope.names.lookup x = some .local := by first | exact .inl rfl | exact .inr rfl | assumption) : PS X (.Assign [.Name x pos'] a pos) (tS cls W (setOS i fo)) :=
  PS_imp (ps_set hN hi hx ha hs hf) fun D σ H h => setOS_of h
/-- x = [.. for ..], x a local -/
theorem psd_setLcO (i : Nat) {y : Str} {py : Pos} {elt tg iter : Expr} {ifs : List Expr} {scope : Scope} {own : List (Str × Nat)} {lpos : Pos} {ts : List Nat} {fi : Ar} {ft : Tg} {fc : Te} {fe : Ex} (hc : X.calm = true) (hN : X.N.Nodup)
    (hsw : swapsWith (.ListComp elt [⟨tg, iter, ifs, 0⟩] scope lpos) (some (.Name y py)) pos.line X.env = pure true) (hi : PI X tg iter (tI cls W fi)) (ok : BlkOk X.N X.env.scope scope own)
    (hg : ∀ (s : Shared) (H : Hp) (C : Addr) (cl : List (Str × Addr)) (fp : List Addr), PG (X.blk s H scope (compEnvC scope cl C X.env) fp) tg (tG ts ft)) (ht : ∀ (s : Shared) (H : Hp) (C : Addr) (cl : List (Str × Addr)) (fp : List Addr), PTs (X.blk s H scope (compEnvC scope cl C X.env) fp) ifs (tT cls W0 fc))
    (he : ∀ (s : Shared) (H : Hp) (C : Addr) (cl : List (Str × Addr)) (fp : List Addr), PE (X.blk s H scope (compEnvC scope cl C X.env) fp) elt (tE cls W0 fe)) (hts : ∀ i ∈ ts, i ∈ own.map (·.2) := by decide) (hy : X.N[i]? = some y := by rfl) (hyl : X.env.scope.names.lookup y = some .local := by rfl)
    (hs : ∀ x, foldedSetIterable iter X.env x = pure x := by intro _; rfl) :
    PS X (.Assign [.Name y py] (.ListComp elt [⟨tg, iter, ifs, 0⟩] scope lpos) pos) (tS cls W (setOS i (lcO fi (own.map (·.2)) ft fc fe))) :=
  PS_imp (ps_setLc hc hN hy hyl hsw hi ok hg ht he hs) fun D σ H h => lc_of hts σ H _ (setOS_of h)
/-- a thing of one's own is read as a datum from here on -/
@[simp] def shutS (i : Nat) (s : Sm) : Sm := fun ρ g => match ρ[i]? with
  | some (.ow (.lst ds)) => s (ρ.set i (.sh (.list ds))) g
  | _ => .bad
theorem pssd_shut (i : Nat) {s : Sm} (h : PSs X rest (tS cls W s)) : PSs X rest (tS cls W (shutS i s)) := PSs_imp h fun D σ H ⟨B, S, ρ, g, I, h⟩ => by
  unfold shutS at h
  cases e : ρ[i]? with
  | none => rw [e] at h; exact False.elim h
  | some z =>
    rw [e] at h
    cases z with
    | ow b =>
      cases b with
      | lst ds =>
        obtain ⟨S', sm, I'⟩ := I.shut e
        exact ⟨B, S', _, g, I', SO_gr sm h⟩
      | _ => exact False.elim h
    | _ => exact False.elim h
/-- x = [.. for ..], read as a datum at once -/
theorem pssd_setLc (i : Nat) {s : Sm} {f : Ow} (h1 : PS X st (tS cls W (setOS i f))) (h2 : PSs X rest (tS cls W s)) : PSs X (st :: rest) (tS cls W (seqS (setOS i f) (shutS i s))) := pssd_cons h1 (pssd_shut i h2)
@[simp] def appS (i : Nat) (f : Ex) : Sm := fun ρ g => match f ρ g with
  | .ok d g1 => match ρ[i]? with
    | some (.ow (.lst ds)) => if ds.length < big then .nx (ρ.set i (.ow (.lst (ds ++ [d])))) g1 else .bad
    | _ => .bad
  | .ex n g1 => (match ρ[i]? with
    | some (.ow (.lst _)) => .ex n ρ g1
    | _ => .bad)
  | .bad => .bad
theorem psd_app (i : Nat) {x : Str} {p apos cpos : Pos} (ha : PE X a (tE cls W fa)) (hN : X.N[i]? = some x := by rfl) (hv : Vis X.env.scope x := by first | exact Or.inl rfl | exact Or.inr (Or.inl rfl) | exact Or.inr (Or.inr rfl)) (hd : (x == ("__debug__" : Str)) = false := by decide) (hcd : (x == ("__classdict__" : Str)) = false := by decide)
    (hb : attributeBase (.Name x p) "append" X.env (eval (.Name x p) X.env) = eval (.Name x p) X.env := by rfl)
    (hz : (((((backTo cpos (starEach (a :: []) X.env)).all fun x => !x.1) && (backToKw cpos (keywordEach [] X.env)).all fun x => x.1.isSome) && decide (((a :: ([] : List Expr)).length + ([] : List Keyword).length + if ([] : List Keyword).isEmpty = true then 0 else 1) < 30)) = true) := by rfl)
    (hl : (apos.endLine == cpos.line) = true := by rfl) (hs : starEach [a] X.env = (false, eval a X.env) :: starEach [] X.env := by rfl) (hpl : ((backTo cpos (starEach [] X.env)).any fun x => x.1) = false := by rfl)
    (hsw : swapsWith (.Call (.Attribute (.Name x p) "append" apos) [a] [] cpos) none pos.line X.env = pure false := by rfl) :
    PS X (.Expr (.Call (.Attribute (.Name x p) "append" apos) [a] [] cpos) pos) (tS cls W (appS i fa)) :=
  PS_imp (ps_expr (pe_bm PySem.F.plainAttrs_list PySem.F.slot_list_append PySem.F.type_list_append mt_append (pe_var hN hv hd hcd) (pa_cons ha pa_nil hs) hb hz hl hs hpl) hsw) fun D σ H ⟨B, S, ρ, g, I, h⟩ => by
    unfold appS at h
    cases e : ρ[i]? with
    | none =>
      rw [e] at h
      cases ea : fa ρ g with
      | _ => rw [ea] at h; exact False.elim h
    | some z =>
      cases z with
      | ow b =>
        cases b with
        | lst ds =>
          obtain ⟨l, o, h1, h2, h3, h4, h5, h6⟩ := I.ow i _ e
          cases h6 with
          | @lst _ vs r =>
            refine ⟨.ref l, h1, .inl ⟨rfl, vs, .of h5⟩, B, S, ρ, g, I, ?_⟩
            cases ea : fa ρ g with
            | bad => rw [ea] at h; exact h
            | ex n g1 => rw [ea, e] at h; exact fun H' S' I' e => h _ _ _ I' e.base
            | ok d g1 =>
              rw [ea, e] at h
              simp only at h
              intro v H1 S1 I1 e1 r1
              by_cases hb : ds.length < big
              · rw [if_pos hb] at h
                refine ⟨l, vs, v, rfl, rfl, e1.keep _ _ h5 h3, big_lt (by rw [r.length]; exact hb), ?_⟩
                exact h _ _ _ (I1.mutO e h1 (.lst ((r.mono e1.base).append (.cons r1 .nil))) fun _ z => nomatch z) e1.base
              · rw [if_neg hb] at h
                exact False.elim h
        | _ =>
          rw [e] at h
          cases ea : fa ρ g with
          | _ => rw [ea] at h; exact False.elim h
      | _ =>
        rw [e] at h
        cases ea : fa ρ g with
        | _ => rw [ea] at h; exact False.elim h

/-! ### loops -/
def forD (t : Tg) (body : Sm) : List PyData → Sm
  | [], ρ, g => .nx ρ g
  | d :: ds, ρ, g => match t d ρ with
    | none => .bad
    | some ρ1 => match body ρ1 g with
      | .nx ρ2 g2 => forD t body ds ρ2 g2
      | .ct ρ2 g2 => forD t body ds ρ2 g2
      | .bk ρ2 g2 => .nx ρ2 g2
      | .rt d g2 => .rt d g2
      | .ex n ρ2 g2 => .ex n ρ2 g2
      | .bad => .bad
@[simp] def forS (fi : Ar) (t : Tg) (body : Sm) : Sm := fun ρ g => match fi ρ g with
  | .ok ds g1 => forD t body ds ρ g1
  | .ex n g1 => .ex n ρ g1
  | .bad => .bad
theorem for_core {B : Bs cls} {S1 H1 : Hp} {ρ : Nv} {g1 : G} {J : It} {ds : List PyData} {ts : List Nat} {t : Tg} {sb : Sm} (I1 : Good B σ H1 S1 ρ g1) (it : ItOk J S1 ds) (h : SO cls W B S1 D (forD t sb ds ρ g1)) :
    ∃ W' : Nat → Nat → L2.St → Hp → Prop, (∃ m, W' 0 m σ H1) ∧ ∀ (i m : Nat) (σ : L2.St) (H : Hp), W' i m σ H → (J.stop i H ∧ D.nx σ H) ∨ (J.go i H ∧ ∃ N : L2.St → Hp → Prop, (∀ σ' H', N σ' H' → ∃ m', m' < m ∧ W' (i + 1) m' σ' H') ∧
      ∀ x H', J.yld i H x H' → (tG ts t) x σ H' fun σ2 H2 => (tS cls W sb) { D with nx := N, ct := N, bk := D.nx } σ2 H2) := by
  refine ⟨fun i m σ' H' => i + m = ds.length ∧ ∃ S' ρ' g', Good B σ' H' S' ρ' g' ∧ Same S1 S' ∧ SO cls W B S' D (forD t sb (ds.drop i) ρ' g'), ⟨ds.length, by omega, S1, ρ, g1, I1, Same.refl _, h⟩, ?_⟩
  rintro i m σ' H' ⟨him, S', ρ', g', I', sm, h'⟩
  by_cases hi : i < ds.length
  · refine .inr ⟨it.go i H' hi (sm.trans I'.sub), fun σ'' H'' => ∃ m', m' < m ∧ (i + 1 + m' = ds.length ∧ ∃ S' ρ' g', Good B σ'' H'' S' ρ' g' ∧ Same S1 S' ∧ SO cls W B S' D (forD t sb (ds.drop (i + 1)) ρ' g')), fun σ'' H'' z => z, fun x H2 hy => ?_⟩
    obtain ⟨d, S2, hd, gr1, rd⟩ := it.yld i H' S' x H2 hi sm I'.sub hy
    obtain ⟨I2, e2⟩ := gr1.good I'
    have hdrop : ds.drop i = d :: ds.drop (i + 1) := by
      rw [List.drop_eq_getElem_cons hi]
      rw [List.getElem?_eq_getElem hi] at hd
      rw [Option.some.inj hd]
    rw [hdrop] at h'
    unfold forD at h'
    cases et : t d ρ' with
    | none => simp only [et] at h'; exact False.elim h'
    | some ρ1 =>
      simp only [et] at h'
      refine ⟨_, B, S2, ρ', g', d, ρ1, I2, rd, et, fun σ3 I3 _ => ⟨B, S2, ρ1, g', I3, ?_⟩⟩
      have h2 := SO_gr e2.base h'
      cases eb : sb ρ1 g' with
      | nx ρ2 g2 =>
        rw [eb] at h2
        exact fun σ4 H4 S4 I4 e4 => ⟨m - 1, by omega, by omega, S4, ρ2, g2, I4, (sm.trans e2.base).trans e4, SO_gr e4 h2⟩
      | ct ρ2 g2 =>
        rw [eb] at h2
        exact fun σ4 H4 S4 I4 e4 => ⟨m - 1, by omega, by omega, S4, ρ2, g2, I4, (sm.trans e2.base).trans e4, SO_gr e4 h2⟩
      | bk ρ2 g2 => rw [eb] at h2; exact h2
      | rt d g2 => rw [eb] at h2; exact h2
      | ex n ρ2 g2 => rw [eb] at h2; exact h2
      | bad => rw [eb] at h2; exact h2
  · have hdrop : ds.drop i = [] := List.drop_eq_nil_of_le (by omega)
    rw [hdrop] at h'
    exact .inl ⟨it.stop i H' (by omega) (sm.trans I'.sub), h' _ _ _ I' (Same.refl _)⟩
theorem psd_for {tg iter : Expr} {body : List Stmt} {ts : List Nat} {fi : Ar} {t : Tg} {sb : Sm} (hp : PassesOwn (model X.prog X.w) X.A X.env X.xe) (hc : X.calm = true) (hi : PI X tg iter (tI cls W fi)) (hg : PG X tg (tG ts t)) (hb : PSs X body (tS cls W sb)) (hs : ∀ x, foldedSetIterable iter X.env x = pure x := by intro _; rfl) :
    PS X (.For tg iter body [] pos) (tS cls W (forS fi t sb)) := PS_imp (ps_for hp hc hi hg hb hs) fun D σ H ⟨B, S, ρ, g, I, h⟩ => by
  unfold forS at h
  refine ⟨B, S, ρ, g, I, ?_⟩
  cases ei : fi ρ g with
  | bad => rw [ei] at h; exact h
  | ex n g1 => rw [ei] at h; exact fun H' S' I' e => h _ _ _ I' e.base
  | ok ds g1 =>
    rw [ei] at h
    exact fun J H1 S1 I1 e1 it => for_core I1 it (SO_gr e1.base h)
/-- for .. in script, the script in slot i -/
def tScF (K : PySem.W.Frag) (cls : Nat → Value) (W : WX) (i : Nat) (ns : List Int) (t : Tg) (sb : Sm) : TS := fun D σ H => ∃ B S ρ g, Good B σ H S ρ g ∧ ρ[i]? = some (.sc 0) ∧ SqL K B.S B.C (ns.map V.int) ∧ SO cls W B S D (forD t sb (ns.map PyData.int) ρ g)
theorem it_sq {K : PySem.W.Frag} {S : Hp} {a : Addr} {ns : List Int} (h : SqL K S a (ns.map V.int)) : ItOk (Itl K a) S (ns.map PyData.int) := by
  have sq : ∀ H, Same S H → SqL K H a (ns.map V.int) := fun H e => e.seq h
  refine ⟨fun i H hi hs => ?_, fun i H hi hs => ⟨_, sq H hs, by rw [List.length_map] at hi ⊢; exact hi⟩, fun i H S' x H' hi h1 h2 hy => ?_⟩
  · rw [List.length_map] at hi
    exact ⟨_, .int ns[i], sq H hs, by rw [List.getElem?_map, List.getElem?_eq_getElem hi]; rfl⟩
  · obtain ⟨rfl, hy⟩ := hy
    rw [List.length_map] at hi
    have e := hy _ (sq _ (h1.trans h2))
    rw [List.getElem?_map, List.getElem?_eq_getElem hi] at e
    have ex : x = .int ns[i] := (Option.some.inj e).symm
    subst ex
    exact ⟨.int ns[i], S', by rw [List.getElem?_map, List.getElem?_eq_getElem hi]; rfl, .same, .int _⟩
theorem psd_forSc (i : Nat) {x : Str} {tg : Expr} {p : Pos} {body : List Stmt} {ts : List Nat} {ns : List Int} {t : Tg} {sb : Sm} (hp : PassesOwn (model X.prog X.w) X.A X.env X.xe) (hc : X.calm = true) (hg : PG X tg (tG ts t)) (hb : PSs X body (tS cls W sb)) (hN : X.N[i]? = some x := by rfl) (hv : Vis X.env.scope x := by first | exact Or.inl rfl | exact Or.inr (Or.inl rfl) | exact Or.inr (Or.inr rfl)) (hd : (x == ("__debug__" : Str)) = false := by decide)
    (hcd : (x == ("__classdict__" : Str)) = false := by decide) (hs : ∀ v, foldedSetIterable (.Name x p) X.env v = pure v := by intro _; rfl) : PS X (.For tg (.Name x p) body [] pos) (tScF X.K cls W i ns t sb) :=
  PS_imp (ps_for hp hc (pi_list (pe_var hN hv hd hcd)) hg hb hs) fun D σ H ⟨B, S, ρ, g, I, hi, hq, h⟩ => by
    have sq := I.base.seq hq
    exact ⟨_, I.sw i 0 hi, B.C, rfl, ⟨_, I.sub.seq sq⟩, for_core I (it_sq sq) h⟩
def whileN (c : Te) (b : Sm) : Nat → Sm
  | 0, _, _ => .bad
  | n + 1, ρ, g => match c ρ g with
    | .ok true g1 => (match b ρ g1 with
      | .nx ρ2 g2 => whileN c b n ρ2 g2
      | .ct ρ2 g2 => whileN c b n ρ2 g2
      | .bk ρ2 g2 => .nx ρ2 g2
      | .rt d g2 => .rt d g2
      | .ex k ρ2 g2 => .ex k ρ2 g2
      | .bad => .bad)
    | .ok false g1 => .nx ρ g1
    | .ex k g1 => .ex k ρ g1
    | .bad => .bad
open Classical in
noncomputable def whileS (c : Te) (b : Sm) : Sm := fun ρ g => if h : ∃ n, whileN c b n ρ g ≠ .bad then whileN c b (Classical.choose h) ρ g else .bad
theorem whileN_mono {c : Te} {b : Sm} : ∀ {n : Nat} {ρ : Nv} {g : G}, whileN c b n ρ g ≠ .bad → ∀ k, whileN c b (n + k) ρ g = whileN c b n ρ g
  | 0, ρ, g, h, k => absurd rfl h
  | n + 1, ρ, g, h, k => by
    rw [show n + 1 + k = (n + k) + 1 by omega]
    unfold whileN at h ⊢
    cases ec : c ρ g with
    | bad => rfl
    | ex m g1 => rfl
    | ok t g1 =>
      cases t with
      | false => rfl
      | true =>
        simp only [ec] at h
        simp only
        cases eb : b ρ g1 with
        | nx ρ2 g2 => simp only [eb] at h; exact whileN_mono h k
        | ct ρ2 g2 => simp only [eb] at h; exact whileN_mono h k
        | _ => rfl
theorem whileS_of {c : Te} {b : Sm} {n : Nat} {ρ : Nv} {g : G} {r : SR} (h : whileN c b n ρ g = r) (hr : r ≠ .bad) : whileS c b ρ g = r := by
  have hx : ∃ n, whileN c b n ρ g ≠ .bad := ⟨n, by rw [h]; exact hr⟩
  unfold whileS
  rw [dif_pos hx]
  have h1 := Classical.choose_spec hx
  generalize Classical.choose hx = m at h1
  rcases Nat.le_total m n with z | z
  · have q := whileN_mono h1 (n - m)
    rw [show m + (n - m) = n by omega] at q
    rw [← q, h]
  · have q := whileN_mono (n := n) (by rw [h]; exact hr) (m - n)
    rw [show n + (m - n) = m by omega] at q
    rw [q, h]
theorem psd_while {body : List Stmt} {tc : Te} {sb : Sm} (hp : PassesOwn (model X.prog X.w) X.A X.env X.xe) (hc : PT X c (tT cls W tc)) (hb : PSs X body (tS cls W sb)) : PS X (.While c body [] pos) (tS cls W (whileS tc sb)) := PS_imp (ps_while hp hc hb) fun D σ H ⟨B, S, ρ, g, I, h⟩ => by
  unfold whileS at h
  by_cases hx : ∃ n, whileN tc sb n ρ g ≠ .bad
  · rw [dif_pos hx] at h
    refine ⟨fun m σ' H' => ∃ S' ρ' g', Good B σ' H' S' ρ' g' ∧ SO cls W B S' D (whileN tc sb m ρ' g'), ⟨_, S, ρ, g, I, h⟩, ?_⟩
    rintro m σ' H' ⟨S', ρ', g', I', h'⟩
    refine ⟨B, S', ρ', g', I', ?_⟩
    cases m with
    | zero => exact False.elim h'
    | succ m =>
      unfold whileN at h'
      cases ec : tc ρ' g' with
      | bad => rw [ec] at h'; exact h'
      | ex n g1 => rw [ec] at h'; exact fun H' S' I' e => h' _ _ _ I' e.base
      | ok k g1 =>
        rw [ec] at h'
        intro H2 S2 I2 e2
        have h2 := SO_gr e2.base h'
        cases k with
        | false => exact h2 _ _ _ I2 (Same.refl _)
        | true =>
          rw [if_pos rfl]
          simp only at h2
          refine ⟨fun σ'' H'' => ∃ m', m' < m + 1 ∧ ∃ S' ρ' g', Good B σ'' H'' S' ρ' g' ∧ SO cls W B S' D (whileN tc sb m' ρ' g'), fun _ _ z => z, B, S2, ρ', g1, I2, ?_⟩
          cases eb : sb ρ' g1 with
          | nx ρ2 g2 =>
            rw [eb] at h2
            exact fun σ4 H4 S4 I4 e4 => ⟨m, by omega, S4, ρ2, g2, I4, SO_gr e4 h2⟩
          | ct ρ2 g2 =>
            rw [eb] at h2
            exact fun σ4 H4 S4 I4 e4 => ⟨m, by omega, S4, ρ2, g2, I4, SO_gr e4 h2⟩
          | bk ρ2 g2 => rw [eb] at h2; exact h2
          | rt d g2 => rw [eb] at h2; exact h2
          | ex n ρ2 g2 => rw [eb] at h2; exact h2
          | bad => rw [eb] at h2; exact h2
  · rw [dif_neg hx] at h
    exact False.elim h

/-! ### exceptions -/
/-- an own class of exceptions: n its number, x its name -/
structure ExcN (K : PySem.W.Frag) (mg : Str → Option Value) (cls : Nat → Value) (n : Nat) (x : Str) : Prop where
  ex : ∃ C : Addr, cls n = .ref C ∧ mg x = some (.ref C) ∧ PySem.W.excIn K C [.type "ValueError", .type "Exception", .type "BaseException", .type "object"] "ValueError.__new__" = true ∧ PySem.W.keepIn K (.ref C) = true ∧
    PySem.W.subIn K (.ref C) (.type "BaseException") = some true ∧ PySem.W.typeIn K (.ref C) = some (.type "type")
@[simp] def raiseS (n : Nat) : Sm := fun ρ g => .ex n ρ g
theorem psd_raise {n : Nat} {x m : Str} {j : Nat} {p p2 pos2 : Pos} (E : ExcN X.K X.mg cls n x) (hc : X.calm = true) (tk : Takes X W) (hg : Gl X x := by rfl) (hd : (x == ("__debug__" : Str)) = false := by decide) : PS X (.Raise (some (.Call (.Name x p) [.Constant (.str m) j p2] [] pos)) none pos2) (tS cls W (raiseS n)) := by
  obtain ⟨C, h1, h2, h3, h4, h5, h6⟩ := E.ex
  exact PS_imp (ps_raise hc tk (pmk_own PySem.F.excBase_ValueError h3 h2 h4 (raises_own h5 h6) hg hd)) fun D σ H ⟨B, S, ρ, g, I, h⟩ => by
    have q := h σ H S I (Same.refl _)
    rw [h1] at q
    exact q
/-- try: body / except the class n: suite; cnt classes there are -/
@[simp] def noEx : SR → SR
  | .ex _ _ _ => .bad
  | r => r
@[simp] def tryS (n cnt : Nat) (sb sh : Sm) : Sm := fun ρ g => match sb ρ g with
  | .ex m ρ1 g1 => if m = n then noEx (sh ρ1 g1) else if m < cnt then .ex m ρ1 g1 else .bad
  | r => r
theorem psd_try {n cnt : Nat} {x : Str} {np pos' : Pos} {body suite : List Stmt} {b₀ : Stmt} {sb sh : Sm} (hx : ∀ m, m < cnt → PySem.W.exmOne X.K (cls m) (cls n) = some (decide (m = n))) (hn : n < cnt) (hm : X.mg x = some (cls n)) (hs : X.stack = X.env :: X.outer) (hf : X.env.frame = some X.env.locals) (tk : Takes X W)
    (hb : ∀ (W' : WX) (pn : List (Addr × Obj)) (xe : Value → Shared → Prop), Takes (X.tr pn xe) W' → PassesOwn (model X.prog X.w) X.A X.env xe → PSs (X.tr pn xe) body (tS cls W' sb))
    (hsu : ∀ (a : Addr) (oe : Obj) (pn : List (Addr × Obj)), PSs (X.suite a ((a, oe) :: pn)) (b₀ :: suite) (tS cls W0 sh)) (hg : Gl X x := by rfl) (hd : (x == ("__debug__" : Str)) = false := by decide) :
    PS X (.Try body [.ExceptHandler (some (.Name x np)) none (b₀ :: suite) pos'] [] [] pos) (tS cls W (tryS n cnt sb sh)) :=
  PS_imp (ps_try_only (tb := fun W' => tS cls W' sb) (ts := fun _ _ _ => tS cls W0 sh) hs hf ⟨hg, hd, .inl hm⟩ tk hb fun a oe _ _ pn _ _ => hsu a oe pn) fun D σ H ⟨B, S, ρ, g, I, h⟩ => by
    unfold tryS at h
    refine ⟨B, S, ρ, g, I, ?_⟩
    cases es : sb ρ g with
    | nx ρ1 g1 => rw [es] at h; exact h
    | rt d g1 => rw [es] at h; exact h
    | bk ρ1 g1 => rw [es] at h; exact h
    | ct ρ1 g1 => rw [es] at h; exact h
    | bad => rw [es] at h; exact h
    | ex m ρ1 g1 =>
      rw [es] at h
      intro σ' H' S' I' e'
      by_cases hmn : m = n
      · subst hmn
        simp only [if_pos] at h
        refine ⟨true, by rw [hx m hn]; simp, fun _ a _ => ?_, (fun z => nomatch z)⟩
        refine ⟨B, S', ρ1, g1, I', ?_⟩
        have h2 := SO_gr e' h
        cases eh : sh ρ1 g1 with
        | nx ρ2 g2 => rw [eh] at h2; exact h2
        | rt d g2 => rw [eh] at h2; exact h2
        | bk ρ2 g2 => rw [eh] at h2; exact h2
        | ct ρ2 g2 => rw [eh] at h2; exact h2
        | bad => rw [eh] at h2; exact h2
        | ex k ρ2 g2 => rw [eh] at h2; exact False.elim h2
      · simp only [if_neg hmn] at h
        by_cases hc : m < cnt
        · rw [if_pos hc] at h
          exact ⟨false, by rw [hx m hc, decide_eq_false hmn], (fun z => nomatch z), fun _ => h σ' H' S' I' e'⟩
        · rw [if_neg hc] at h
          exact False.elim h
end

/-! ### defs -/
abbrev Fn := List PyData → G → R PyData
def FO (cls : Nat → Value) (B : Bs cls) (Q : VK) (E : XK) : R PyData → Prop
  | .ok d g' => ∀ v H' S', Fin B H' S' g' → Rp S' v d → Q v H'
  | .ex n g' => ∀ H' S', Fin B H' S' g' → E (cls n) none H'
  | .bad => False
/-- a def's promise: m what it computes of the data, dr whether its first argument is the draws -/
def spF (cls : Nat → Value) (ar : Nat) (dr : Bool) (m : Fn) : Sp := fun vs H Q E => vs.length = ar ∧ ∃ (A : Addr) (live : Bool) (nv : V) (S : Hp) (us : List V) (ds : List PyData) (g : G), vs = (if dr = true then .ref A :: us else us) ∧ (dr = true → live = true) ∧ Fin (cls := cls) ⟨A, live, S, H, 0, nv, false⟩ H S g ∧ Rps S us ds ∧ FO cls ⟨A, live, S, H, 0, nv, false⟩ Q E (m ds g)
@[simp] def fnD (n : Nat) (dr : Bool) (body : Sm) : Fn := fun ds g => match body ((if dr = true then .dr :: ds.map .sh else ds.map .sh) ++ List.replicate n .no) g with
  | .nx _ g1 => .ok .none g1
  | .rt d g1 => .ok d g1
  | .ex k _ g1 => .ex k g1
  | _ => .bad
structure Kept (P : Program) (w : World) (K : PySem.W.Frag) (mg : Str → Option Value) (base : Heap) (cls : Nat → Value) (x : Str) (ps : List Str) (dr : Bool) (m : Fn) (k : Nat) : Prop where
  ex : ∃ (f : Addr) (fd : FuncData), mg x = some (.ref f) ∧ PySem.W.keepIn K (.ref f) = true ∧ L2.Binds K fd ps [] ∧ FnOk P w K mg base (L2.CX P w) k f fd ps (spF cls ps.length dr m)
section
variable {P : Program} {w : World} {K : PySem.W.Frag} {mg : Str → Option Value} {base : Heap} {cls : Nat → Value}
theorem Rps.sh {S : Hp} : ∀ {us : List V} {ds : List PyData} {i : Nat} {d : PyData}, Rps S us ds → (ds.map Sl.sh)[i]? = some (.sh d) → ∃ v, (us.map some)[i]? = some (some v) ∧ Rp S v d := fun {us ds i d} r e => by
  rw [List.getElem?_map] at e
  cases h : ds[i]? with
  | none => rw [h] at e; cases e
  | some d' =>
    rw [h] at e
    cases e
    obtain ⟨v, h1, h2⟩ := r.getD h
    exact ⟨v, by rw [List.getElem?_map, h1]; rfl, h2⟩
theorem start_good {A : Addr} {live : Bool} {nv : V} {S H : Hp} {us vs : List V} {ds : List PyData} {g : G} {dr : Bool} {N : List Str} {n : Nat} (F : Fin (cls := cls) ⟨A, live, S, H, 0, nv, false⟩ H S g) (hlv : dr = true → live = true) (hv : vs = (if dr = true then .ref A :: us else us)) (r : Rps S us ds) (hn : N.length - vs.length = n) :
    Good (cls := cls) ⟨A, live, S, H, 0, nv, false⟩ (L2.start N vs) H S ((if dr = true then .dr :: ds.map .sh else ds.map .sh) ++ List.replicate n .no) g := by
  have hno : ∀ (L : List Sl) (i : Nat) (z : Sl), z ≠ .no → (L ++ List.replicate n Sl.no)[i]? = some z → L[i]? = some z := fun L i z hz h => by
    by_cases hi : i < L.length
    · rw [List.getElem?_append_left hi] at h; exact h
    · rw [List.getElem?_append_right (Nat.le_of_not_lt hi), List.getElem?_replicate] at h
      split at h
      · exact absurd (Option.some.inj h).symm hz
      · cases h
  have hst : ∀ (i : Nat) (v : V), (vs.map some)[i]? = some (some v) → (L2.start N vs)[i]? = some (some v) := fun i v h => by
    unfold L2.start
    rw [List.getElem?_append_left (List.getElem?_eq_some_iff.mp h).1]
    exact h
  have hnoow : ∀ (i : Nat) (b : Ob), ((if dr = true then Sl.dr :: ds.map .sh else ds.map .sh) ++ List.replicate n Sl.no)[i]? ≠ some (.ow b) := fun i b h => by
    have h' := hno _ _ (.ow b) (fun z => nomatch z) h
    cases dr with
    | true =>
      rw [if_pos rfl] at h'
      cases i with
      | zero => cases h'
      | succ i =>
        rw [List.getElem?_cons_succ, List.getElem?_map] at h'
        cases e : ds[i]? with
        | none => rw [e] at h'; cases h'
        | some d => rw [e] at h'; cases h'
    | false =>
      rw [if_neg (by decide)] at h'
      rw [List.getElem?_map] at h'
      cases e : ds[i]? with
      | none => rw [e] at h'; cases h'
      | some d => rw [e] at h'; cases h'
  refine ⟨F, ?_, fun i d h => ?_, fun i {_} h => ?_, fun i n h => ?_, fun i b h => absurd h (hnoow i b), (fun i j b c a h _ _ _ => absurd h (hnoow i b)), fun i rows a cs h _ _ => absurd h (hnoow i _)⟩
  · unfold L2.start
    rw [List.length_append, List.length_append, List.length_map, List.length_replicate, List.length_replicate, hn, hv]
    cases dr with
    | true => rw [if_pos rfl, if_pos rfl, List.length_cons, List.length_cons, List.length_map, r.length]
    | false => rw [if_neg (by decide), if_neg (by decide), List.length_map, r.length]
  · have h' := hno _ _ (.sh d) (fun z => nomatch z) h
    cases dr with
    | true =>
      rw [if_pos rfl] at h' hv
      subst hv
      cases i with
      | zero => cases h'
      | succ i =>
        obtain ⟨v, h1, h2⟩ := r.sh (i := i) (d := d) h'
        exact ⟨v, hst _ _ h1, h2⟩
    | false =>
      rw [if_neg (by decide)] at h' hv
      subst hv
      obtain ⟨v, h1, h2⟩ := r.sh h'
      exact ⟨v, hst _ _ h1, h2⟩
  · have h' := hno _ _ (.dx _) (fun z => nomatch z) h
    cases dr with
    | true =>
      rw [if_pos rfl] at h' hv
      subst hv
      cases i with
      | zero => cases h'; exact ⟨hst _ _ rfl, hlv rfl, fun z => nomatch z⟩
      | succ i =>
        rw [List.getElem?_cons_succ, List.getElem?_map] at h'
        cases e : ds[i]? with
        | none => rw [e] at h'; cases h'
        | some d => rw [e] at h'; cases h'
    | false =>
      rw [if_neg (by decide)] at h'
      rw [List.getElem?_map] at h'
      cases e : ds[i]? with
      | none => rw [e] at h'; cases h'
      | some d => rw [e] at h'; cases h'
  · have h' := hno _ _ (.sc n) (fun z => nomatch z) h
    cases dr with
    | true =>
      rw [if_pos rfl] at h'
      cases i with
      | zero => cases h'
      | succ i =>
        rw [List.getElem?_cons_succ, List.getElem?_map] at h'
        cases e : ds[i]? with
        | none => rw [e] at h'; cases h'
        | some d => rw [e] at h'; cases h'
    | false =>
      rw [if_neg (by decide)] at h'
      rw [List.getElem?_map] at h'
      cases e : ds[i]? with
      | none => rw [e] at h'; cases h'
      | some d => rw [e] at h'; cases h'
/-- THE RULE for a def -/
theorem fn_ok {x : Str} {st : Stmt} {N ps : List Str} {k : Nat} {dr : Bool} {body : Sm} (Fx : ∃ (f : Addr) (fd : FuncData), Fun K x x st f fd ∧ mg x = some (.ref f) ∧ L2.Binds K fd ps []) (S : FnScope N ps (defScope st))
    (hd : ∀ (f : Addr) (cdv : Value) (A : Around) (outer : List PySem.Env) (s : Shared) (H : Hp) (E : XK), Room k (A.deeper (envOfC x (defScope st) s.heap.objs.size f cdv)) →
      PSs (cxOf (L2.CX P w) P w K mg base N x (defScope st) f cdv A outer s H E) (defBody st) (tS cls (fun c d _ H => E c d H) body)) {n : Nat} (hn : N.length - ps.length = n := by rfl) :
    Kept P w K mg base cls x ps dr (fnD n dr body) (k + 1) := by
  obtain ⟨f, fd, F, hm, hb⟩ := Fx
  refine ⟨f, fd, hm, F.kp, hb, F.okX S (fun vs H Q E h => h.1) fun cdv A outer s H vs Q E hr h => ?_⟩
  obtain ⟨hl, A1, live, nv, S1, us, ds, g, hv, hlive, Fi, r, h⟩ := h
  refine ⟨_, hd f cdv A outer s H E hr, ⟨A1, live, S1, H, 0, nv, false⟩, S1, (if dr = true then .dr :: ds.map .sh else ds.map .sh) ++ List.replicate n .no, g, start_good Fi hlive hv r (by rw [hl]; exact hn), ?_⟩
  unfold fnD at h
  cases eb : body ((if dr = true then .dr :: ds.map .sh else ds.map .sh) ++ List.replicate n .no) g with
  | nx ρ1 g1 => rw [eb] at h; exact fun σ' H' S' I' _ => h .non H' S' I'.toFin .non
  | rt d g1 => rw [eb] at h; exact fun v H' S' F' r' => h v H' S' F' r'
  | ex n ρ1 g1 => rw [eb] at h; exact fun σ' H' S' I' _ => h H' S' I'.toFin
  | bk ρ1 g1 => rw [eb] at h; exact False.elim h
  | ct ρ1 g1 => rw [eb] at h; exact False.elim h
  | bad => rw [eb] at h; exact h
end
section
variable {X : Cx} {cls : Nat → Value} {W : WX} {pos p : Pos} {e : Expr} {es : List Expr} {fa : Ar} {x : Str} {ps : List Str} {m : Fn} {j k : Nat}
theorem Good.after {B : Bs cls} {σ : L2.St} {H S H' S' : Hp} {ρ : Nv} {g g' : G} (I : Good B σ H S ρ g) (F : Fin (cls := cls) ⟨B.A, B.live, S, H, 0, B.N, false⟩ H' S' g') : Good B σ H' S' ρ g' ∧ Gr B H S H' S' := by
  have e : Gr B H S H' S' := ⟨F.keep, F.base, F.new, F.there, fun a x => F.own a (fun z => nomatch z) x⟩
  refine ⟨I.grow e F.sub ?_, e⟩
  have d := F.dr
  match g', d with
  | none, d => exact d
  | some (.dr _ _), d => exact d
  | some (.ob _ _), d => exact d
theorem Good.fin0 {B : Bs cls} {σ : L2.St} {H S : Hp} {ρ : Nv} {g : G} (I : Good B σ H S ρ g) : Fin (cls := cls) ⟨B.A, B.live, S, H, 0, B.N, false⟩ H S g := by
  refine ⟨I.sub, fun _ _ h _ => h, Same.refl _, fun _ h => .inl h, fun _ h => h, I.no, ?_, fun _ _ x => x⟩
  have d := I.dr
  match g, d with
  | none, d => exact d
  | some (.dr _ _), d => exact d
  | some (.ob _ _), d => exact d
@[simp] def callD (ar : Nat) (m : Fn) (fa : Ar) : Ex := fun ρ g => (fa ρ g).bind fun ds g1 => if ds.length = ar then m ds g1 else .bad
theorem pd_call (F : Kept X.prog X.w X.K X.mg X.base cls x ps false m j) (hr : Room k X.A) (hjk : j ≤ k) (tk : Takes X W) (ha : PA X (e :: es) (tA cls W fa)) (hg : Gl X x := by rfl) (hdb : (x == ("__debug__" : Str)) = false := by decide)
    (he : starEach (e :: es) X.env = (false, eval e X.env) :: starEach es X.env := by rfl) (hpl : (backTo pos (starEach es X.env)).any (·.1) = false := by rfl) {ar : Nat} (har : ps.length = ar := by rfl) : PE X (.Call (.Name x p) (e :: es) [] pos) (tE cls W (callD ar m fa)) := by
  subst har
  obtain ⟨f, fd, hm, hk, hb, F⟩ := F.ex
  exact PE_imp (pe_callS F (hr.mono hjk) hg hm hk hb (fun σ => passAt tk σ) ha hdb he hpl) fun σ H Q ⟨B, S, ρ, g, I, h⟩ => by
    unfold callD at h
    refine ⟨B, S, ρ, g, I, ?_⟩
    cases ea : fa ρ g with
    | bad => rw [ea] at h; exact h
    | ex n g1 => rw [ea] at h; exact h
    | ok ds g1 =>
      rw [ea] at h
      intro vs H1 S1 I1 e1 r1
      have h' := EO_gr e1 h
      simp only [R.bind_ok] at h'
      by_cases hl : ds.length = ps.length
      · rw [if_pos hl] at h'
        refine ⟨by rw [r1.length]; exact hl, B.A, B.live, B.N, S1, vs, ds, g1, rfl, (fun z => nomatch z), I1.fin0, r1, ?_⟩
        cases em : m ds g1 with
        | ok d g2 =>
          rw [em] at h'
          intro v H2 S2 F2 r2
          obtain ⟨I2, e2⟩ := I1.after F2
          exact h' v H2 S2 I2 e2 r2
        | ex n g2 =>
          rw [em] at h'
          intro H2 S2 F2
          obtain ⟨I2, e2⟩ := I1.after F2
          exact h' H2 S2 I2 e2
        | bad => rw [em] at h'; exact h'
      · rw [if_neg hl] at h'
        exact False.elim h'
/-- f(draws, ..): the draws stand in slot i -/
@[simp] def callG (ar i : Nat) (m : Fn) (fa : Ar) : Ex := fun ρ g => match ρ[i]? with
  | some (.dx false) => (fa ρ g).bind fun ds g1 => if ds.length + 1 = ar then m ds g1 else .bad
  | _ => .bad
theorem pd_callG (i : Nat) {y : Str} {py : Pos} (F : Kept X.prog X.w X.K X.mg X.base cls x ps true m j) (hr : Room k X.A) (hjk : j ≤ k) (tk : Takes X W) (ha : PA X es (tA cls W fa)) (hN : X.N[i]? = some y := by rfl) (hv : Vis X.env.scope y := by first | exact Or.inl rfl | exact Or.inr (Or.inl rfl) | exact Or.inr (Or.inr rfl)) (hd : (y == ("__debug__" : Str)) = false := by decide)
    (hcd : (y == ("__classdict__" : Str)) = false := by decide) (hg : Gl X x := by rfl) (hdb : (x == ("__debug__" : Str)) = false := by decide)
    (he : starEach (.Name y py :: es) X.env = (false, eval (.Name y py) X.env) :: starEach es X.env := by rfl) (hpl : (backTo pos (starEach es X.env)).any (·.1) = false := by rfl) {ar : Nat} (har : ps.length = ar := by rfl) : PE X (.Call (.Name x p) (.Name y py :: es) [] pos) (tE cls W (callG ar i m fa)) := by
  subst har
  obtain ⟨f, fd, hm, hk, hb, F⟩ := F.ex
  exact PE_imp (pe_callS F (hr.mono hjk) hg hm hk hb (fun σ => passAt tk σ) (pa_cons (pe_var hN hv hd hcd) ha he) hdb he hpl) fun σ H Q ⟨B, S, ρ, g, I, h⟩ => by
    unfold callG at h
    cases ei : ρ[i]? with
    | none => rw [ei] at h; exact False.elim h
    | some z =>
      cases z with
      | dx b =>
        have hb : b = false := by
          cases b with
          | false => rfl
          | true => rw [ei] at h; exact False.elim h
        subst hb
        rw [ei] at h
        refine ⟨_, (I.dw i ei).1, B, S, ρ, g, I, ?_⟩
        simp only at h
        cases ea : fa ρ g with
        | bad => rw [ea] at h; exact h
        | ex n g1 => rw [ea] at h; exact h
        | ok ds g1 =>
          rw [ea] at h
          intro vs H1 S1 I1 e1 r1
          have h' := EO_gr e1 h
          simp only [R.bind_ok] at h'
          by_cases hl : ds.length + 1 = ps.length
          · rw [if_pos hl] at h'
            have hlive : B.live = true := (I.dw i ei).2.1
            refine ⟨by rw [List.length_cons, r1.length]; exact hl, B.A, B.live, B.N, S1, vs, ds, g1, rfl, fun _ => hlive, I1.fin0, r1, ?_⟩
            cases em : m ds g1 with
            | ok d g2 =>
              rw [em] at h'
              intro v H2 S2 F2 r2
              obtain ⟨I2, e2⟩ := I1.after F2
              exact h' v H2 S2 I2 e2 r2
            | ex n g2 =>
              rw [em] at h'
              intro H2 S2 F2
              obtain ⟨I2, e2⟩ := I1.after F2
              exact h' H2 S2 I2 e2
            | bad => rw [em] at h'; exact h'
          · rw [if_neg hl] at h'
            exact False.elim h'
      | _ => rw [ei] at h; exact False.elim h
end
end DL

set_option Elab.async false
set_option linter.all false
set_option maxRecDepth 100000
set_option maxHeartbeats 400000
/-! ### t[::-1] of a tuple -/
namespace DLT
open PySem PyProof.Rows HT
open PySem.SeqAt
open PySem.AutoSeq1 (wpAny_loadPart')
open PySem.MeetsSeq PySem.MeetsSeq2 PySem.MeetsSeq3
section
variable {prog : Program} {w : World} {A : Around} {E : Value → Shared → Prop} {s : Shared}
theorem applied_rev {sl : Addr} {vl vu vs : Value} {n : Nat} {Q : Int × Int × Nat → Shared → Prop} (hs : s.heap.IsSliceOf sl vl vu vs) (pl : IsPart vl none) (pu : IsPart vu none) (ps : IsPart vs (some (-1)))
    (h : Q ((n : Int) - 1, -1, n) s) : wpAny (model prog w) A (Builtin.Slice.sliceApplied (.ref sl) (pure (n : Int))) Q E s := by
  obtain ⟨os, hos, hcs, hds⟩ := id hs
  unfold Builtin.Slice.sliceApplied Builtin.Slice.sliceFields
  refine wpAny_bind (wpAny_bind (wpAny_field hos hds (x := vl) rfl (wpAny_bind (wpAny_field hos hds (x := vu) rfl (wpAny_bind (wpAny_field hos hds (x := vs) rfl (wpAny_pure ?_)))))))
  refine wpAny_bind (slicePart_ ps ?_)
  show wpAny _ _ (if ((-1 : Int) == 0) = true then _ else _) _ _ s
  rw [if_neg (by decide)]
  refine wpAny_bind (slicePart_ pl (wpAny_bind (slicePart_ pu (wpAny_bind (wpAny_pure ?_)))))
  show wpAny _ _ (pure ((n : Int) - 1, (-1 : Int), Builtin.Slice.slicePlaces ((n : Int) - 1) (-1) (-1))) _ _ s
  have e : Builtin.Slice.slicePlaces ((n : Int) - 1) (-1) (-1) = n := by
    unfold Builtin.Slice.slicePlaces
    have h1 : ¬ ((-1 : Int) > 0) := by decide
    rw [if_neg h1]
    by_cases hn : (n : Int) - 1 > -1
    · rw [if_pos hn, show (-(-1 : Int)) = 1 by decide, Int.ediv_one]
      omega
    · rw [if_neg hn]
      omega
  rw [e]
  exact wpAny_pure h
theorem pick_rev (xs : Array Value) : ((List.range xs.size).filterMap fun (k : Nat) => xs[(((xs.size : Int) - 1) + (k : Int) * -1).toNat]?).toArray = xs.toList.reverse.toArray := by
  have e : (fun (k : Nat) => xs[(((xs.size : Int) - 1) + (k : Int) * -1).toNat]?) = fun k => xs[xs.size - 1 - k]? := by
    funext k
    have : (((xs.size : Int) - 1) + (k : Int) * -1).toNat = xs.size - 1 - k := by omega
    rw [this]
  rw [e]
  have q := PySem.W.krv_range xs.size
  have r : (List.range xs.size).filterMap (fun k => xs[xs.size - 1 - k]?) = ((List.range xs.size).map (fun k => xs.size - 1 - k)).filterMap (xs[·]?) := by
    rw [List.filterMap_map]
    rfl
  rw [r, q, List.filterMap_reverse, PySem.W.krv_all]
theorem getItem_tuple_rev {t sl : Addr} {items : Array Value} {vl vu vs : Value} {Q : Value → Shared → Prop} (ht : IsTup s.heap t items) (hs : s.heap.IsSliceOf sl vl vu vs) (pl : IsPart vl none) (pu : IsPart vu none) (ps : IsPart vs (some (-1)))
    (h : Q (.ref s.heap.objs.size) { s with heap := s.heap.push { cls := .type "tuple", data := .seq items.toList.reverse.toArray } })
    (hsz : items.size ≤ sizeLine) : wpAny (model prog w) A (getItem (.ref t) (.ref sl)) Q E s := by
  have htake : sizeOk (.seq items.toList.reverse.toArray) := by
    show items.toList.reverse.toArray.size ≤ sizeLine
    rw [List.size_toArray, List.length_reverse, Array.length_toList]
    exact hsz
  obtain ⟨os, hos, hcs, hds⟩ := id hs
  have hTs : s.TypeIs (.ref sl) "slice" := ⟨os, hos, hcs⟩
  unfold getItem
  try with_reducible refine wpAny_holding ?_
  first | refine wpAny_bind (wpAny_pure ?_) | skip
  refine wpAny_bind (wpAny_sequenceKey ht.typeIs (by decide) ?_)
  refine wpAny_bind (wpAny_callSpecial?_slot (name := Str.ofString "__getitem__") ht.typeIs PyProof.Rows.slot_tuple_getitem
    (wpAny_call_entry PyProof.Rows.slot_tuple_getitem ht.typeIs entry_tuple_getitem ?_ (args_tuple_getitem _ _)))
  show wpAny _ _ (Builtin.Tuple.tupleItemsOf (.ref t) >>= _) _ _ s
  refine wpAny_bind (tupleItemsOf_ ht ?_)
  refine wpAny_bind (wpAny_typeOf hTs ?_)
  rw [if_pos (by decide)]
  refine wpAny_bind (applied_rev hs pl pu ps ?_)
  have hno : ¬ ((((items.size : Int) - 1) == 0 && (-1 : Int) == 1 && items.size == items.size) = true) := by simp
  show wpAny _ _ (if (((items.size : Int) - 1) == 0 && (-1 : Int) == 1 && items.size == items.size) = true then _ else _) _ _ s
  rw [if_neg hno, pick_rev]
  first
    | exact wpAny_bind (m := Builtin.Tuple.tupleExact _) (wpAny_newObj_type (wpAny_pure ⟨_, rfl, wpAny_pure h⟩) htake)
    | exact wpAny_bind (m := Builtin.Tuple.tupleExact _) (wpAny_newObj_type (wpAny_bind (wpAny_pure (wpAny_pure ⟨_, rfl, wpAny_pure h⟩))) htake)
    | exact wpAny_bind (wpAny_bind (m := Builtin.Tuple.tupleExact _) (wpAny_newObj_type (wpAny_pure (wpAny_pure ⟨_, rfl, wpAny_pure h⟩)) htake))
    | exact wpAny_bind (wpAny_bind (m := Builtin.Tuple.tupleExact _) (wpAny_newObj_type (wpAny_pure ⟨_, rfl, wpAny_pure h⟩) htake))
end
end DLT
namespace DL
open PySem PySem.Spec PyProof.Rows L2
variable {cls : Nat → Value}
section
variable {X : Cx} {cls : Nat → Value} {W : WX} {pos : Pos} {a b c : Expr} {fa fb fc : Ex} {k : Nat}
/-! ### x[::-1] -/
def tRevT (K : PySem.W.Frag) (te : TE) : TE := fun σ H Q => te σ H fun x H1 => ∃ a xs, x = .ref a ∧ SqT K H1 a xs ∧ ∀ p, H1 p = none → Q (.ref p) (upd H1 p (.tup xs.reverse))
theorem pe_revT {e : Expr} {te : TE} {k : Nat} {p1 p2 p3 pos : Pos} (he : PE X e te) : PE X (.Subscript e (.Slice none none (some (.UnaryOp .USub (.Constant (.int 1) k p1) p2)) p3) pos) (tRevT X.K te) := by
  refine ⟨fun pins s σ H Q I h => ?_⟩
  refine Subscript_ (thn (he.run pins s σ H _ I h) fun v s1 ⟨x, H1, I1, r1, q1⟩ => ?_)
  obtain ⟨a, xs, ex, hx, q⟩ := q1
  subst ex
  cases r1
  have hst : PO X (some (.UnaryOp .USub (.Constant (.int 1) k p1) p2)) (tPart (tUn (rU fun i => .int (-i)) (tC (.int 1)))) := po_some (pe_un un_neg pe_int)
  refine wpAny_Slice (thn (po_none.run pins s1 σ H1 (fun o H2 => o = none ∧ H2 = H1) I1 ⟨rfl, rfl⟩) fun vl s2 ⟨l, H2, I2, pl, el, e2⟩ => ?_)
  subst el e2
  refine thn (po_none.run pins s2 σ H2 (fun o H3 => o = none ∧ H3 = H2) I2 ⟨rfl, rfl⟩) fun vu s3 ⟨u, H3, I3, pu, eu, e3⟩ => ?_
  subst eu e3
  refine thn (hst.run pins s3 σ H3 (fun o H4 => o = some (-1) ∧ H4 = H3) I3 ⟨1, rfl, -1, rfl, rfl, rfl⟩) fun vs s4 ⟨o, H4, I4, ps, eo, e4⟩ => ?_
  subst eo e4
  have I5 : Inv X pins σ H4 { s4 with heap := s4.heap.push { cls := .type "slice", data := .fields #[vl, vu, vs] } } := I4.kept (t' := s4.toks) fun b ob q => Heap.get?_push_of_some _ q
  obtain ⟨its, r, ht, hz⟩ := I5.tuple hx
  have hlen := r.length
  show wpAny (model X.prog X.w) X.A (subscriptTail e (.Slice none none (some (.UnaryOp .USub (.Constant (.int 1) k p1) p2)) p3) (.ref a) (.ref s4.heap.objs.size)) (EP X pins σ Q) X.xe { s4 with heap := s4.heap.push { cls := .type "slice", data := .fields #[vl, vu, vs] } }
  refine tail_any (ops := [.ref a, .ref s4.heap.objs.size]) ht.typeIs (PyProof.Rows.slot_tuple_getitem.lookup) ?_ (by with_unfolding_all rfl)
  refine DLT.getItem_tuple_rev ht (Heap.IsSliceOf.new _ vl vu vs) pl pu ps ?_ (by rw [List.size_toArray]; omega)
  refine ⟨.ref _, _, I5.laid (t' := s4.toks) (o := .tup xs.reverse) (fun b ob q => Heap.get?_push_of_some _ q) (Nat.le_refl _) ?_, rfl, q _ (I5.hok.fresh (Nat.le_refl _))⟩
  exact ⟨by rw [List.length_reverse]; exact hz, _, r.reverse, ⟨_, Heap.get?_push_size _ rfl, rfl, _, rfl⟩⟩
@[simp] def revD : PyData → Option PyData
  | .list ds => some (.list ds.reverse)
  | .tuple ds => some (.tuple ds.reverse)
  | _ => none
theorem pd_rev {e : Expr} {k : Nat} {p1 p2 p3 pos : Pos} (he : PE X e (tE cls W fa)) : PE X (.Subscript e (.Slice none none (some (.UnaryOp .USub (.Constant (.int 1) k p1) p2)) p3) pos) (tE cls W (unD revD fa)) := by
  refine ⟨fun pins s σ H Q I0 h => ?_⟩
  obtain ⟨B, S, ρ, g, I, h⟩ := h
  unfold unD at h
  cases ea : fa ρ g with
  | bad => rw [ea] at h; exact False.elim h
  | ex n g1 =>
    rw [ea] at h
    refine (pe_revL he).run pins s σ H Q I0 ⟨B, S, ρ, g, I, ?_⟩
    rw [ea]
    exact h
  | ok x g1 =>
    rw [ea] at h
    simp only [R.bind_ok] at h
    cases x with
    | list ds =>
      refine (pe_revL he).run pins s σ H Q I0 ⟨B, S, ρ, g, I, ?_⟩
      rw [ea]
      intro v H1 S1 I1 e1 r1
      cases r1 with
      | @lst p xs ds hx qx =>
        refine ⟨p, xs, rfl, .of (I1.sub _ _ hx), fun q hq => ?_⟩
        obtain ⟨I2, e2⟩ := I1.alloc (o := .lst xs.reverse) hq
        exact h _ _ _ I2 (e1.trans e2) (.lst upd_same (qx.reverse.mono e2.base))
    | tuple ds =>
      refine (pe_revT he).run pins s σ H Q I0 ⟨B, S, ρ, g, I, ?_⟩
      rw [ea]
      intro v H1 S1 I1 e1 r1
      cases r1 with
      | @tup p xs ds hx qx =>
        refine ⟨p, xs, rfl, .of (I1.sub _ _ hx), fun q hq => ?_⟩
        obtain ⟨I2, e2⟩ := I1.alloc (o := .tup xs.reverse) hq
        exact h _ _ _ I2 (e1.trans e2) (.tup upd_same (qx.reverse.mono e2.base))
    | _ => exact False.elim h
/-! ### the draws' object -/
/-- draws[0], draws[1]: the draws in slot i -/
@[simp] def dr0 (i : Nat) : Ex := fun ρ g => match ρ[i]?, g with
  | some .dr, some (.dr ns _) => .ok (.list (ns.map PyData.int)) g
  | _, _ => .bad
@[simp] def dr1 (i : Nat) : Ex := fun ρ g => match ρ[i]?, g with
  | some .dr, some (.dr _ j) => .ok (.int j) g
  | _, _ => .bad
variable {x : Str} {p p2 : Pos} {j : Nat}
theorem pd_dr0 (i : Nat) (hN : X.N[i]? = some x := by rfl) (hv : Vis X.env.scope x := by first | exact Or.inl rfl | exact Or.inr (Or.inl rfl) | exact Or.inr (Or.inr rfl)) (hd : (x == ("__debug__" : Str)) = false := by decide) (hcd : (x == ("__classdict__" : Str)) = false := by decide) :
    PE X (.Subscript (.Name x p) (.Constant (.int 0) j p2) pos) (tE cls W (dr0 i)) := PE_imp (pe_ix ix_list (pe_var hN hv hd hcd) pe_int (fun _ _ => rfl)) fun σ H Q ⟨B, S, ρ, g, I, h⟩ => by
  unfold dr0 at h
  split at h
  · rename_i ns k ei
    obtain ⟨_, h1, h2⟩ := (show DrAt B H S (some (.dr ns k)) from I.dr)
    exact ⟨_, (I.dw i ei).1, B.A, _, 0, B.N, rfl, rfl, .of h1, rfl, h B.N H S I .refl h2⟩
  · exact False.elim h
theorem pd_dr1 (i : Nat) (hN : X.N[i]? = some x := by rfl) (hv : Vis X.env.scope x := by first | exact Or.inl rfl | exact Or.inr (Or.inl rfl) | exact Or.inr (Or.inr rfl)) (hd : (x == ("__debug__" : Str)) = false := by decide) (hcd : (x == ("__classdict__" : Str)) = false := by decide) :
    PE X (.Subscript (.Name x p) (.Constant (.int 1) j p2) pos) (tE cls W (dr1 i)) := PE_imp (pe_ix ix_list (pe_var hN hv hd hcd) pe_int (fun _ _ => rfl)) fun σ H Q ⟨B, S, ρ, g, I, h⟩ => by
  unfold dr1 at h
  split at h
  · rename_i ns k ei
    obtain ⟨_, h1, h2⟩ := (show DrAt B H S (some (.dr ns k)) from I.dr)
    exact ⟨_, (I.dw i ei).1, B.A, _, 1, .int k, rfl, rfl, .of h1, rfl, h _ H S I .refl (.int k)⟩
  · exact False.elim h
/-- draws[1] = e -/
def drSetS (i : Nat) (f : Ex) : Sm := stE f fun d ρ g => match ρ[i]?, g, d with
  | some .dr, some (.dr ns _), .int j => .nx ρ (some (.dr ns j))
  | _, _, _ => .bad
theorem Good.setDr {B : Bs cls} {σ : L2.St} {H S : Hp} {ρ : Nv} {ns : List Int} {k j : Int} (I : Good B σ H S ρ (some (.dr ns k))) (h1 : H B.A = some (.lst [B.N, .int k])) (h2 : Rp S B.N (.list (ns.map PyData.int))) : Good B σ (upd H B.A (.lst [B.N, .int j])) S ρ (some (.dr ns j)) := by
  obtain ⟨hl, _⟩ := (show DrAt B H S (some (.dr ns k)) from I.dr)
  have no := I.no hl
  have hx : ∀ c, Exm B (upd H B.A (.lst [B.N, .int j])) S c → Exm B H S c := fun c x => ⟨hl, .inl (by
    obtain ⟨_, z | ⟨_, C, dx, vs, n, e, _⟩⟩ := x
    · exact z
    · rw [upd_same] at e; cases e)⟩
  refine ⟨⟨fun c o q => ?_, fun c o q n => ?_, I.base, I.new, fun c q => ?_, I.no, ⟨hl, upd_same, h2⟩, fun c h x => I.own c h (hx c x)⟩, I.len, I.sh, I.dw, I.sw, fun i b h => ?_, I.ap, I.mxMove (Same.refl _) (fun i b h => ⟨⟨b, h⟩, rfl⟩) (fun i rows h => h) (fun i rows a h h' => ?_) fun i rows a cs _ h h' h2' c hc => ?_⟩
  · rw [upd_ne (ne_of_none q no)]; exact I.sub _ _ q
  · rw [upd_ne fun z => n (I.own c (fun _ => by rw [q]; simp) ⟨hl, .inl z⟩)]; exact I.keep c o q n
  · by_cases hc : c = B.A
    · subst hc; rw [upd_same]; simp
    · rw [upd_ne hc]; exact I.there c q
  · obtain ⟨a, o, q1, q2, q3, q4, q5, q6⟩ := I.ow i b h
    exact ⟨a, o, q1, q2, fun x => q3 (hx a x), q4, by rw [upd_ne fun z => q3 ⟨hl, .inl z⟩]; exact q5, q6⟩
  · obtain ⟨a0, o, q1, q2, q3, _⟩ := I.ow i _ h
    have e := addr_of h' q1
    subst e
    exact upd_ne fun z => q3 ⟨hl, .inl z⟩
  · have R := (I.mx i rows a cs h h' h2').1.row (I.rowsAt h h' h2') hc
    exact ⟨upd_ne fun z => R.2.1 ⟨hl, .inl z⟩, R.1, hx c⟩
theorem psd_drSet (i : Nat) {pos' : Pos} (ha : PE X a (tE cls W fa)) (hN : X.N[i]? = some x := by rfl) (hv : Vis X.env.scope x := by first | exact Or.inl rfl | exact Or.inr (Or.inl rfl) | exact Or.inr (Or.inr rfl)) (hd : (x == ("__debug__" : Str)) = false := by decide) (hcd : (x == ("__classdict__" : Str)) = false := by decide)
    (h0 : ∀ v, assign (.Subscript (.Name x p) (.Constant (.int 1) j p2) pos') X.env v = (do
      let ov ← holding [v] (eval (.Name x p) X.env)
      let iv ← holding [v, ov] (eval (.Constant (.int 1) j p2) X.env)
      standAt pos'
      holding [v, ov, iv] (setItem ov iv v)
      release [v, ov, iv] []) := by intro _; rfl)
    (hs : swapsWithSole [.Subscript (.Name x p) (.Constant (.int 1) j p2) pos'] a pos.line X.env = pure false := by rfl) (hw : swappedStores [.Subscript (.Name x p) (.Constant (.int 1) j p2) pos'] a X.env = pure none := by rfl)
    (h1 : (assignEach [.Subscript (.Name x p) (.Constant (.int 1) j p2) pos'] X.env).map (·.2) = [assign (.Subscript (.Name x p) (.Constant (.int 1) j p2) pos') X.env] := by rfl) :
    PS X (.Assign [.Subscript (.Name x p) (.Constant (.int 1) j p2) pos'] a pos) (tS cls W (drSetS i fa)) :=
  PS_imp (ps_asg ha (pg_sub (pe_var hN hv hd hcd) pe_int set_list h0) hs hw h1) fun D σ H h => st_of h fun B S ρ g d v H1 I r q => by
    split at q
    · rename_i ns k m ei
      cases r with
      | int m =>
        obtain ⟨hl, e1, e2⟩ := (show DrAt B H1 S (some (.dr ns k)) from I.dr)
        exact ⟨_, (I.dw i ei).1, B.A, _, 1, 1, rfl, rfl, e1, rfl, q _ _ _ (I.setDr e1 e2) (Same.refl _)⟩
    · exact False.elim q
/-! ### more -/
theorem psd_aug_add (i : Nat) {x : Str} {pos' : Pos} (hN : X.N.Nodup) (ha : PE X a (tE cls W fa)) (hi : X.N[i]? = some x := by rfl) (hx : Loc X.env.scope x := by first | exact Or.inl rfl | exact Or.inr rfl)
    (hf : X.fn x = true ∨ X.env.scope.names.lookup x = some .local := by first | exact .inl rfl | exact .inr rfl | assumption) : PS X (.AugAssign (.Name x pos') .Add a pos) (tS cls W (setS i (opD (fun x y => match x, y with | .int i, .int j => some (.int (i + j)) | _, _ => none) (varD i) fa))) :=
  PS_imp (ps_aug hN hi hx ha ip_add hf) fun D σ H ⟨B, S, ρ, g, I, h⟩ => by
    unfold setS stE opD varD at h
    cases e : ρ[i]? with
    | none => simp only [e, R.bind_bad] at h; exact False.elim h
    | some z =>
      cases z with
      | sh d =>
        simp only [e, R.bind_ok] at h
        obtain ⟨v, h1, h2⟩ := I.sh i d e
        refine ⟨v, h1, B, S, ρ, g, I, ?_⟩
        cases ea : fa ρ g with
        | bad => rw [ea] at h; exact h
        | ex n g1 => rw [ea] at h; exact fun H' S' I' e => h _ _ _ I' e.base
        | ok y g1 =>
          rw [ea] at h
          simp only [R.bind_ok] at h
          intro u H1 S1 I1 e1 r1
          cases h2 with
          | int m =>
            cases r1 with
            | int n => exact ⟨m, n, rfl, rfl, h _ _ _ (I1.setSh i (.int _)) e1.base⟩
            | _ => exact False.elim h
          | _ => exact False.elim h
      | _ => simp only [e, R.bind_bad] at h; exact False.elim h
/-- a body that never ends well: for what is never come to -/
theorem pssd_bad {sts : List Stmt} : PSs X sts (tS cls W fun _ _ => .bad) := PSs_imp pss_never fun D σ H ⟨B, S, ρ, g, I, h⟩ => h
end
end DL

set_option Elab.async false
set_option linter.all false
set_option maxRecDepth 100000
set_option maxHeartbeats 400000
namespace DL
open PySem PySem.Spec PyProof.Rows L2
variable {cls : Nat → Value}
section
variable {P : Program} {w : World} {K : PySem.W.Frag} {mg : Str → Option Value} {base : Heap} {cls : Nat → Value}
theorem kept_bad {x : Str} {st : Stmt} {ps : List Str} {k : Nat} {dr : Bool} (Fx : ∃ (f : Addr) (fd : FuncData), Fun K x x st f fd ∧ mg x = some (.ref f) ∧ L2.Binds K fd ps []) : Kept P w K mg base cls x ps dr (fun _ _ => .bad) k := by
  obtain ⟨f, fd, F, hm, hb⟩ := Fx
  refine ⟨f, fd, hm, F.kp, hb, ⟨fun vs H Q E h => h.1, fun A outer s H args us vs Q E hr he hb hv hs => ?_⟩⟩
  obtain ⟨_, _, _, _, _, _, _, _, _, _, _, _, h⟩ := hs
  exact False.elim h
theorem Kept.mono {x : Str} {ps : List Str} {dr : Bool} {m : Fn} {j k : Nat} (F : Kept P w K mg base cls x ps dr m j) (h : j ≤ k) : Kept P w K mg base cls x ps dr m k := by
  obtain ⟨f, fd, h1, h2, h3, h4⟩ := F.ex
  exact ⟨f, fd, h1, h2, h3, h4.mono h⟩
/-! ### the script's numbers -/
def Small (ms : List Int) : Prop := ms.length ≤ 4000 ∧ ∀ m ∈ ms, 0 ≤ m ∧ m < 1000000
def spNum (K : PySem.W.Frag) : Sp := fun vs H Q _ => vs.length = 1 ∧ ∃ (a : Addr) (ns : List Int), vs = [.ref a] ∧ SqL K H a (ns.map V.int) ∧ ns.length ≤ 63 ∧ Only H ∧
  ∀ (p : Addr) (H' : Hp) (ms : List Int), Same H H' → H p = none → H' p = some (.lst (ms.map V.int)) → Small ms → Q (.ref p) H'
/-- what stands locked -/
def locked (H : Hp) : Hp := fun b => match H b with
  | some (.frz o u) => some (.frz o u)
  | _ => none
theorem locked_some {H : Hp} {b : Addr} {o : HO} (h : locked H b = some o) : H b = some o ∧ ∃ o' u, o = .frz o' u := by
  unfold locked at h
  split at h
  · rename_i o' u e
    cases h
    exact ⟨e, _, _, rfl⟩
  · cases h
theorem sq_locked {H : Hp} {a : Addr} {xs : List V} (ho : Only H) (h : SqL K H a xs) : SqL K (locked H) a xs := by
  rcases h with (h | ⟨o, h⟩) | h
  · rcases ho a with z | ⟨o, ys, z⟩
    · rw [z] at h; cases h
    · rw [z] at h; cases h
  · refine .inl (.inr ⟨o, ?_⟩)
    unfold locked
    rw [h]
  · exact .inr h
theorem num_start {H : Hp} {a : Addr} {N : List Str} {n : Nat} (hn : N.length - 1 = n) : Good (cls := cls) ⟨0, false, locked H, H, a, .non, false⟩ (L2.start N [.ref a]) H (locked H) (.sc 0 :: List.replicate n .no) none := by
  have rep : ∀ (i : Nat) (z : Sl), z ≠ .no → (List.replicate n Sl.no)[i]? ≠ some z := fun i z hz h => by
    rw [List.getElem?_replicate] at h
    split at h
    · exact hz (Option.some.inj h).symm
    · cases h
  refine ⟨⟨fun b o h => (locked_some h).1, fun _ _ h _ => h, Same.refl _, fun _ h => .inl h, fun _ h => h, (fun z => nomatch z), rfl, fun _ _ x => x⟩, ?_, fun i d h => ?_, fun i {_} h => ?_, fun i m h => ?_, fun i b h => ?_, fun i j b c x h _ _ _ => ?_, fun i rows x cs h _ _ => ?_⟩
  · unfold L2.start
    rw [List.length_append, List.length_replicate]
    show 1 + (N.length - 1) = (List.replicate n Sl.no).length + 1
    rw [List.length_replicate]
    omega
  · cases i with
    | zero => cases h
    | succ i => exact absurd h (rep i _ (fun z => nomatch z))
  · cases i with
    | zero => cases h
    | succ i => exact absurd h (rep i _ (fun z => nomatch z))
  · cases i with
    | zero => cases h; rfl
    | succ i => exact absurd h (rep i _ (fun z => nomatch z))
  · cases i with
    | zero => cases h
    | succ i => exact absurd h (rep i _ (fun z => nomatch z))
  · cases i with
    | zero => cases h
    | succ i => exact absurd h (rep i _ (fun z => nomatch z))
  · cases i with
    | zero => cases h
    | succ i => exact absurd h (rep i _ (fun z => nomatch z))
/-- numbers = [] / for .. in script: .. / return numbers -/
theorem num_ok {st : Stmt} {N : List Str} {k : Nat} {t : Tg} {sb : Sm} (Fx : ∃ (f : Addr) (fd : FuncData), Fun K "_law_numbers" "_law_numbers" st f fd ∧ mg "_law_numbers" = some (.ref f) ∧ L2.Binds K fd ["script"] []) (S : FnScope N ["script"] (defScope st)) {n : Nat}
    (hd : ∀ (f : Addr) (cdv : Value) (A : Around) (outer : List PySem.Env) (s : Shared) (H : Hp) (E : XK) (ns : List Int), Room k (A.deeper (envOfC "_law_numbers" (defScope st) s.heap.objs.size f cdv)) →
      PSs (cxOf (L2.CX P w) P w K mg base N "_law_numbers" (defScope st) f cdv A outer s H E) (defBody st) (tSeq (tS cls (fun c d _ H => E c d H) (setOS 1 (lstO nilD))) (tSeq (tScF K cls (fun c d _ H => E c d H) 0 ns t sb) (tS cls (fun c d _ H => E c d H) (shutS 1 (retS (varD 1)))))))
    (hm : ∀ ns : List Int, ns.length ≤ 63 → ∃ (ms : List Int) (ρ' : Nv), Small ms ∧ forD t sb (ns.map PyData.int) (.sc 0 :: .ow (.lst []) :: List.replicate (n - 1) .no) none = .nx ρ' none ∧ ρ'[1]? = some (.ow (.lst (ms.map PyData.int)))) (hn : N.length - 1 = n := by rfl) (h1 : 1 ≤ n := by decide) :
    ∃ (f : Addr) (fd : FuncData), mg "_law_numbers" = some (.ref f) ∧ PySem.W.keepIn K (.ref f) = true ∧ L2.Binds K fd ["script"] [] ∧ FnOk P w K mg base (L2.CX P w) (k + 1) f fd ["script"] (spNum K) := by
  obtain ⟨f, fd, F, hmg, hb⟩ := Fx
  refine ⟨f, fd, hmg, F.kp, hb, F.okX S (fun vs H Q E h => h.1) fun cdv A outer s H vs Q E hr h => ?_⟩
  obtain ⟨_, a, ns, rfl, hq, hl, ho, h⟩ := h
  refine ⟨_, hd f cdv A outer s H E ns hr, ⟨0, false, locked H, H, a, .non, false⟩, locked H, _, none, num_start hn, ?_⟩
  show ∀ σ' H' S', _
  intro σ1 H1 S1 I1 e1
  have er : (Sl.sc 0 :: List.replicate n Sl.no).set 1 (.ow (.lst [])) = .sc 0 :: .ow (.lst []) :: List.replicate (n - 1) .no := by
    obtain ⟨m, rfl⟩ : ∃ m, n = m + 1 := ⟨n - 1, by omega⟩
    rfl
  rw [er] at I1
  refine ⟨_, S1, _, none, I1, rfl, sq_locked ho hq, ?_⟩
  obtain ⟨ms, ρ', hs, hf, hρ⟩ := hm ns hl
  rw [hf]
  intro σ2 H2 S2 I2 e2
  refine ⟨_, S2, ρ', none, I2, ?_⟩
  have il : 1 < ρ'.length := (List.getElem?_eq_some_iff.mp hρ).1
  have hsh : shutS 1 (retS (varD 1)) ρ' none = .rt (.list (ms.map PyData.int)) none := by
    unfold shutS
    rw [hρ]
    show (retS (varD 1)) (ρ'.set 1 (.sh (.list (ms.map PyData.int)))) none = _
    unfold retS stE varD
    rw [List.getElem?_set_self il]
  rw [hsh]
  intro v H3 S3 F3 r3
  cases r3 with
  | @lst p xs ds hx qx =>
    have ex := qx.ints
    subst ex
    refine h p H3 ms (fun b o e => F3.keep b o e (fun z => nomatch z)) ?_ (F3.sub _ _ hx) hs
    rcases F3.new p (by rw [hx]; simp) with z | z
    · exfalso
      cases e : locked H p with
      | none => exact z e
      | some o =>
        obtain ⟨_, o', u, rfl⟩ := locked_some e
        rw [F3.base p _ e] at hx
        cases hx
    · exact z
/-! ### the law -/
def spLaw (K : PySem.W.Frag) : Sp := fun vs H Q _ => ∃ (a : Addr) (ns : List Int), vs = [.ref a] ∧ SqL K H a (ns.map V.int) ∧ ns.length ≤ 63 ∧ Only H ∧ ∀ H', Q (.bl true) H'
theorem law_start {H : Hp} {a p q : Addr} {ms : List Int} {N : List Str} {n : Nat} (hn : N.length - 2 = n) (hp : H p = some (.lst (ms.map V.int))) (hq : H q = none) :
    Good (cls := cls) ⟨q, true, upd (fun _ => none) p (.lst (ms.map V.int)), upd H q (.lst [.ref p, .int 0]), 0, .ref p, false⟩ (some (.ref a) :: some (.ref q) :: List.replicate n none) (upd H q (.lst [.ref p, .int 0])) (upd (fun _ => none) p (.lst (ms.map V.int))) (.no :: .dr :: List.replicate n .no) (some (.dr ms 0)) := by
  have hpq : p ≠ q := ne_of_none hp hq
  have rep : ∀ (i : Nat) (z : Sl), z ≠ .no → (List.replicate n Sl.no)[i]? ≠ some z := fun i z hz h => by
    rw [List.getElem?_replicate] at h
    split at h
    · exact hz (Option.some.inj h).symm
    · cases h
  have only : ∀ (i : Nat) (z : Sl), z ≠ .no → z ≠ .dr → (Sl.no :: .dr :: List.replicate n .no)[i]? ≠ some z := fun i z h1 h2 h => by
    match i, h with
    | 0, h => exact h1 (Option.some.inj h).symm
    | 1, h => exact h2 (Option.some.inj h).symm
    | i + 2, h => exact rep i z h1 h
  refine ⟨⟨fun b o h => ?_, fun _ _ h _ => h, Same.refl _, fun _ h => .inl h, fun _ h => h, fun _ => ?_, ⟨rfl, upd_same, .lst upd_same (Rps.of_ints ms)⟩, fun _ _ x => x⟩, ?_, fun i d h => absurd h (only i _ (fun z => nomatch z) (fun z => nomatch z)), fun i {_} h => ?_, fun i m h => absurd h (only i _ (fun z => nomatch z) (fun z => nomatch z)), fun i b h => absurd h (only i _ (fun z => nomatch z) (fun z => nomatch z)), (fun i j b c x h _ _ _ => absurd h (only i _ (fun z => nomatch z) (fun z => nomatch z))), fun i rows x cs h _ _ => absurd h (only i _ (fun z => nomatch z) (fun z => nomatch z))⟩
  · by_cases hb : b = p
    · subst hb
      rw [upd_same] at h
      rw [upd_ne hpq, hp, ← h]
    · rw [upd_ne hb] at h
      cases h
  · exact upd_ne (Ne.symm hpq)
  · rw [List.length_cons, List.length_cons, List.length_cons, List.length_cons, List.length_replicate, List.length_replicate]
  · match i, h with
    | 0, h => cases h
    | 1, h => cases h; exact ⟨rfl, rfl, fun z => nomatch z⟩
    | i + 2, h => exact absurd h (rep i _ (fun z => nomatch z))
/-- the law: draws = [_law_numbers(script), 0], then a body that hands back True -/
theorem law_ok {st : Stmt} {N : List Str} {k : Nat} {body : Sm} {f : Addr} {fd : FuncData} (F : Fun K "law" "law" st f fd) (S : FnScope N ["script"] (defScope st)) {n : Nat}
    (hd : ∀ (cdv : Value) (A : Around) (outer : List PySem.Env) (s : Shared) (H : Hp) (E : XK), Room k (A.deeper (envOfC "law" (defScope st) s.heap.objs.size f cdv)) →
      PSs (cxOf (L2.CX P w) P w K mg base N "law" (defScope st) f cdv A outer s H E) (defBody st) (tSeq (tAsg (tLst (tCons (tCallS (spNum K) (WE fun c d _ H => E c d H) (tCons (tVar 0) tNil)) (tCons (tC (.int 0)) tNil))) (gName 1)) (tS cls (fun c d _ H => E c d H) body)))
    (hm : ∀ ms : List Int, Small ms → ∃ g', body (.no :: .dr :: List.replicate n .no) (some (.dr ms 0)) = .rt (.bool true) g') (hn : N.length - 2 = n := by rfl) (h2 : 2 ≤ N.length := by decide) : FnOk P w K mg base (L2.CX P w) (k + 1) f fd ["script"] (spLaw K) := by
  refine F.okX S (fun vs H Q E h => ?_) fun cdv A outer s H vs Q E hr h => ?_
  · obtain ⟨a, ns, rfl, _⟩ := h
    rfl
  · obtain ⟨a, ns, rfl, hq, hl, ho, h⟩ := h
    refine ⟨_, hd cdv A outer s H E hr, ?_⟩
    have e0 : (L2.start N [V.ref a])[0]? = some (some (.ref a)) := rfl
    refine ⟨.ref a, e0, rfl, a, ns, rfl, hq, hl, ho, fun p H1 ms sm np hp hs => ?_⟩
    refine ⟨by show 2 ≤ sizeLine; rw [sizeLine_eq]; decide, fun q hq1 => ?_⟩
    obtain ⟨g', hb⟩ := hm ms hs
    have est : (L2.start N [V.ref a]).set 1 (some (.ref q)) = some (.ref a) :: some (.ref q) :: List.replicate n none := by
      unfold L2.start
      obtain ⟨m, hm'⟩ : ∃ m, N.length - [V.ref a].length = m + 1 := ⟨N.length - 2, by show N.length - 1 = _; omega⟩
      have : m = n := by
        have : N.length - 1 = m + 1 := hm'
        omega
      rw [hm', this]
      rfl
    show (tS cls _ body) _ ((L2.start N [V.ref a]).set 1 (some (.ref q))) _
    rw [est]
    refine ⟨_, _, _, _, law_start hn hp hq1, ?_⟩
    rw [hb]
    intro v H2 S2 F2 r2
    cases r2
    exact h H2
end
end DL

set_option Elab.async false
set_option linter.all false
set_option maxRecDepth 100000
set_option maxHeartbeats 400000
/-! plain facts about mirrors -/
namespace DL
open PySem
@[simp] theorem setS_ap (i : Nat) (f : Ex) (ρ : Nv) (g : G) : setS i f ρ g = match f ρ g with
  | .ok d g1 => .nx (ρ.set i (.sh d)) g1
  | .ex n g1 => .ex n ρ g1
  | .bad => .bad := rfl
@[simp] theorem asgS_ap (f : Ex) (t : Tg) (ρ : Nv) (g : G) : asgS f t ρ g = match f ρ g with
  | .ok d g1 => match t d ρ with
    | some ρ1 => .nx ρ1 g1
    | none => .bad
  | .ex n g1 => .ex n ρ g1
  | .bad => .bad := rfl
@[simp] theorem dropS_ap (f : Ex) (ρ : Nv) (g : G) : dropS f ρ g = match f ρ g with
  | .ok _ g1 => .nx ρ g1
  | .ex n g1 => .ex n ρ g1
  | .bad => .bad := rfl
@[simp] theorem retS_ap (f : Ex) (ρ : Nv) (g : G) : retS f ρ g = match f ρ g with
  | .ok d g1 => .rt d g1
  | .ex n g1 => .ex n ρ g1
  | .bad => .bad := rfl
@[simp] theorem drSetS_ap (i : Nat) (f : Ex) (ρ : Nv) (g : G) : drSetS i f ρ g = match f ρ g with
  | .ok d g1 => match ρ[i]?, g1, d with
    | some .dr, some (.dr ns _), .int j => .nx ρ (some (.dr ns j))
    | _, _, _ => .bad
  | .ex n g1 => .ex n ρ g1
  | .bad => .bad := rfl
/-- a loop by what holds behind each part of its items -/
theorem forD_all {α : Type} {t : Tg} {body : Sm} (enc : α → PyData) (R : List α → Nv → G → Prop) (xs : List α) (h : ∀ pre x post, xs = pre ++ x :: post → ∀ ρ g, R pre ρ g → ∃ ρ1 ρ2 g2, t (enc x) ρ = some ρ1 ∧ (body ρ1 g = .nx ρ2 g2 ∨ body ρ1 g = .ct ρ2 g2) ∧ R (pre ++ [x]) ρ2 g2) {ρ : Nv} {g : G} (h0 : R [] ρ g) :
    ∃ ρ' g', forD t body (xs.map enc) ρ g = .nx ρ' g' ∧ R xs ρ' g' := by
  have key : ∀ (post pre : List α) ρ g, xs = pre ++ post → R pre ρ g → ∃ ρ' g', forD t body (post.map enc) ρ g = .nx ρ' g' ∧ R xs ρ' g' := by
    intro post
    induction post with
    | nil =>
      intro pre ρ g e r
      rw [List.append_nil] at e
      subst e
      exact ⟨ρ, g, rfl, r⟩
    | cons x post ih =>
      intro pre ρ g e r
      obtain ⟨ρ1, ρ2, g2, h1, h2, h3⟩ := h pre x post e ρ g r
      obtain ⟨ρ', g', h4, h5⟩ := ih (pre ++ [x]) ρ2 g2 (by rw [e, List.append_assoc]; rfl) h3
      refine ⟨ρ', g', ?_, h5⟩
      rw [List.map_cons]
      unfold forD
      rw [h1]
      rcases h2 with h2 | h2
      · simp only [h2, h4]
      · simp only [h2, h4]
  exact key xs [] ρ g rfl h0
/-- a comprehension by what holds behind each part of its items -/
theorem compD_all {α : Type} {t : Tg} {cond : Te} {elt : Ex} (enc : α → PyData) (R : List α → List PyData → G → Prop) (xs : List α) (ρ : Nv)
    (h : ∀ pre x post, xs = pre ++ x :: post → ∀ ys g, R pre ys g → ∃ ρ1 g1, t (enc x) ρ = some ρ1 ∧ ((cond ρ1 g = .ok false g1 ∧ R (pre ++ [x]) ys g1) ∨ (cond ρ1 g = .ok true g1 ∧ ∃ y g2, elt ρ1 g1 = .ok y g2 ∧ R (pre ++ [x]) (ys ++ [y]) g2))) {g : G} (h0 : R [] [] g) :
    ∃ ys g', compD t cond elt (xs.map enc) ρ g = .ok ys g' ∧ R xs ys g' := by
  have key : ∀ (post pre : List α) ys g, xs = pre ++ post → R pre ys g → ∃ zs g', compD t cond elt (post.map enc) ρ g = .ok zs g' ∧ R xs (ys ++ zs) g' := by
    intro post
    induction post with
    | nil =>
      intro pre ys g e r
      rw [List.append_nil] at e
      subst e
      exact ⟨[], g, rfl, by rw [List.append_nil]; exact r⟩
    | cons x post ih =>
      intro pre ys g e r
      obtain ⟨ρ1, g1, h1, h2⟩ := h pre x post e ys g r
      rcases h2 with ⟨h2, h3⟩ | ⟨h2, y, g2, h3, h4⟩
      · obtain ⟨zs, g', h4, h5⟩ := ih (pre ++ [x]) ys g1 (by rw [e, List.append_assoc]; rfl) h3
        refine ⟨zs, g', ?_, h5⟩
        rw [List.map_cons]
        unfold compD
        rw [h1]
        simp only [h2, h4]
      · obtain ⟨zs, g', h5, h6⟩ := ih (pre ++ [x]) (ys ++ [y]) g2 (by rw [e, List.append_assoc]; rfl) h4
        refine ⟨y :: zs, g', ?_, by rw [List.append_assoc] at h6; exact h6⟩
        rw [List.map_cons]
        unfold compD
        rw [h1]
        simp only [h2, h3, h5]
        rfl
  obtain ⟨zs, g', h1, h2⟩ := key xs [] [] g rfl h0
  exact ⟨zs, g', h1, h2⟩
/-- a comprehension that draws nothing: filter and map -/
theorem compD_pure {α : Type} {t : Tg} {cond : Te} {elt : Ex} (enc : α → PyData) (c : α → Bool) (e : α → PyData) (xs : List α) (ρ : Nv) (g : G)
    (h : ∀ x ∈ xs, ∃ ρ1, t (enc x) ρ = some ρ1 ∧ cond ρ1 g = .ok (c x) g ∧ (c x = true → elt ρ1 g = .ok (e x) g)) : compD t cond elt (xs.map enc) ρ g = .ok ((xs.filter c).map e) g := by
  induction xs with
  | nil => rfl
  | cons x xs ih =>
    obtain ⟨ρ1, h1, h2, h3⟩ := h x List.mem_cons_self
    have ih' := ih fun y hy => h y (List.mem_cons_of_mem _ hy)
    rw [List.map_cons]
    unfold compD
    rw [h1]
    simp only
    rw [h2]
    cases hc : c x with
    | false =>
      simp only [ih']
      rw [List.filter_cons_of_neg (by rw [hc]; decide)]
    | true =>
      simp only [h3 hc, ih']
      rw [List.filter_cons_of_pos hc]
      rfl
theorem upFrom_zero (lo : Int) : upFrom lo 0 = [] := rfl
theorem upFrom_succ (lo : Int) (n : Nat) : upFrom lo (n + 1) = .int lo :: upFrom (lo + 1) n := by
  unfold upFrom
  rw [List.range_succ_eq_map, List.map_cons, List.map_map]
  congr 1
  · simp
  · apply List.map_congr_left
    intro k _
    show PyData.int (lo + ((k + 1 : Nat) : Int)) = PyData.int (lo + 1 + (k : Int))
    congr 1
    omega
theorem atI_at {α : Type} {xs : List α} {i : Int} {j : Nat} {v : α} (e : i = (j : Int)) (h : xs[j]? = some v) : L2.atI xs i = some v := by
  rw [e]
  exact L2.atI_nat h
theorem upFrom_map (lo : Int) (n : Nat) : upFrom lo n = (List.range n).map fun (k : Nat) => PyData.int (lo + (k : Int)) := rfl
end DL

set_option Elab.async false
set_option linter.all false
set_option maxRecDepth 100000
set_option maxHeartbeats 400000
/-! The data layer, part 7: peeks at things of one's own, items set, lists of lists, max and min. -/
namespace DL
open PySem PySem.Spec PyProof.Rows L2
variable {cls : Nat → Value}
theorem Rps.of_get {S : Hp} : ∀ {vs : List V} {ds : List PyData}, vs.length = ds.length → (∀ (k : Nat) (v : V) (d : PyData), vs[k]? = some v → ds[k]? = some d → Rp S v d) → Rps S vs ds
  | [], [], _, _ => .nil
  | [], _ :: _, h, _ => by cases h
  | _ :: _, [], h, _ => by cases h
  | v :: vs, d :: ds, h, k => .cons (k 0 v d rfl rfl) (Rps.of_get (Nat.succ.inj h) fun j x y h1 h2 => k (j + 1) x y (by simpa using h1) (by simpa using h2))
section
variable {B : Bs cls} {σ : L2.St} {H S : Hp} {ρ : Nv} {g : G}
/-- a list of lists of one's own becomes a datum -/
theorem Good.shutM (I : Good B σ H S ρ g) {i : Nat} {rows : List (List PyData)} (hi : ρ[i]? = some (.ow (.mat rows))) : ∃ S', Same S S' ∧ Good B σ H S' (ρ.set i (.sh (.list (rows.map PyData.list)))) g := by
  obtain ⟨a, cs, h1, h5, hl, h2, h3, h4, R⟩ := I.rows hi
  obtain ⟨_, A1, A2⟩ := I.mx i rows a cs hi h1 h5
  have hlt : i < ρ.length := (List.getElem?_eq_some_iff.mp hi).1
  have key : ∀ (j : Nat) (z : Sl), (ρ.set i (.sh (.list (rows.map PyData.list))))[j]? = some z → (j = i ∧ z = .sh (.list (rows.map PyData.list))) ∨ (j ≠ i ∧ ρ[j]? = some z) := fun j z h => by
    by_cases hj : j = i
    · subst hj
      rw [List.getElem?_set_self hlt] at h
      exact .inl ⟨rfl, (Option.some.inj h).symm⟩
    · rw [List.getElem?_set_ne (Ne.symm hj)] at h
      exact .inr ⟨hj, h⟩
  let S' : Hp := fun x => if x = a ∨ x ∈ cs then H x else S x
  have inS : ∀ x, (x = a ∨ x ∈ cs) → S' x = H x := fun x h => if_pos h
  have ouS : ∀ x, ¬ (x = a ∨ x ∈ cs) → S' x = S x := fun x h => if_neg h
  have mem : ∀ x, (x = a ∨ x ∈ cs) → S x = none ∧ ¬ Exm B H S x ∧ B.H x = none := fun x h => by
    rcases h with rfl | h
    · exact ⟨h2, h3, h4⟩
    · obtain ⟨k1, k2, k3, _⟩ := R.row hl h
      exact ⟨k1, k2, k3⟩
  have sm : Same S S' := fun c u q => by
    rw [ouS c fun z => by rw [(mem c z).1] at q; cases q]
    exact q
  have bk : ∀ {c : Addr}, Exm B H S' c → Exm B H S c := fun x => x.back sm fun _ => rfl
  refine ⟨S', sm, ⟨fun c u q => ?_, I.keep, I.base.trans sm, fun c q => ?_, I.there, fun hv => ?_, I.dr.mono sm (fun _ _ => rfl) (fun c x z => by rw [ouS c fun w => (mem c w).2.1 x]; exact z), fun c h x => I.own c h (bk x)⟩, by rw [List.length_set]; exact I.len, fun j d h => ?_, fun j {_} h => ?_, fun j n h => ?_, fun j c h => ?_, fun j l c d x k1 k2 k3 k4 => ?_, I.mxMove sm (fun j c h => ?_) (fun j rows h => ?_) (fun _ _ _ _ _ => rfl) fun j rows' x cs' _ h h' h2' c hc => ⟨rfl, ?_, bk⟩⟩
  · by_cases hc : c = a ∨ c ∈ cs
    · rw [inS c hc] at q; exact q
    · rw [ouS c hc] at q; exact I.sub _ _ q
  · by_cases hc : c = a ∨ c ∈ cs
    · exact .inr (mem c hc).2.2
    · rw [ouS c hc] at q; exact I.new c q
  · rw [ouS B.A fun z => (mem B.A z).2.1 ⟨hv, .inl rfl⟩]; exact I.no hv
  · rcases key j _ h with ⟨rfl, e⟩ | ⟨_, h⟩
    · cases e
      refine ⟨.ref a, h1, .lst (by rw [inS a (.inl rfl)]; exact h5) (Rps.of_get (by rw [List.length_map, List.length_map]; exact hl) fun k v d e1 e2 => ?_)⟩
      rw [List.getElem?_map] at e1 e2
      obtain ⟨c, hc, rfl⟩ := Option.map_eq_some_iff.mp e1
      obtain ⟨row, hr, rfl⟩ := Option.map_eq_some_iff.mp e2
      obtain ⟨_, _, _, vs, q1, q2⟩ := R.at_ k c row hc hr
      exact .lst (by rw [inS c (.inr (List.mem_of_getElem? hc))]; exact q1) (q2.mono sm)
    · obtain ⟨v, q1, q2⟩ := I.sh j d h
      exact ⟨v, q1, q2.mono sm⟩
  · rcases key j _ h with ⟨rfl, e⟩ | ⟨_, h⟩
    · cases e
    · exact I.dw j h
  · rcases key j _ h with ⟨rfl, e⟩ | ⟨_, h⟩
    · cases e
    · exact I.sw j n h
  · rcases key j _ h with ⟨rfl, e⟩ | ⟨hj, h⟩
    · cases e
    · obtain ⟨x, u, q1, q2, q3, q4, q5, q6⟩ := I.ow j c h
      have hx : ¬ (x = a ∨ x ∈ cs) := fun z => by
        rcases z with z | z
        · exact hj (I.ap j i c _ a h hi (by rw [q1, z]) h1)
        · exact A1 j c x h q1 z
      exact ⟨x, u, q1, by rw [ouS x hx]; exact q2, fun z => q3 (bk z), q4, q5, q6.mono sm⟩
  · rcases key j _ k1 with ⟨rfl, e⟩ | ⟨_, k1⟩
    · cases e
    · rcases key l _ k2 with ⟨rfl, e⟩ | ⟨_, k2⟩
      · cases e
      · exact I.ap j l c d x k1 k2 k3 k4
  · rcases key j _ h with ⟨rfl, e⟩ | ⟨_, h⟩
    · cases e
    · exact ⟨⟨c, h⟩, rfl⟩
  · rcases key j _ h with ⟨rfl, e⟩ | ⟨_, h⟩
    · cases e
    · exact h
  · have hji : j ≠ i := fun z => by subst z; rename_i hq; rcases key j _ hq with ⟨_, e⟩ | ⟨q, _⟩; cases e; exact q rfl
    obtain ⟨R', A1', A2'⟩ := I.mx j rows' x cs' h h' h2'
    rw [ouS c fun z => by
      rcases z with z | z
      · exact A1' i _ a hi h1 (by rw [← z]; exact hc)
      · exact A2 j rows' x cs' hji h h' h2' c z hc]
    exact (R'.row (I.rowsAt h h' h2') hc).1
/-- what a thing of one's own is as a datum -/
def keyDt : Key → PyData
  | .inl i => .int i
  | .inr s => .str s
theorem key_dt (k : Key) : keyD (keyDt k) = some k := by cases k <;> rfl
def dictD (kvs : List (Key × PyData)) : PyData := .dict (kvs.map fun kv => (keyDt kv.1, kv.2))
theorem rpk_of {S : Hp} {kvs : List (Key × PyData)} {ws : List (Key × V)} (r : Paired (fun (p : Key × PyData) (q : Key × V) => p.1 = q.1 ∧ Rp S q.2 p.2) kvs ws) : Rpk S ws (kvs.map fun kv => (keyDt kv.1, kv.2)) := by
  induction r with
  | nil => exact .nil
  | @cons p q ps qs h t ih =>
    rw [List.map_cons]
    obtain ⟨k, v⟩ := q
    exact .cons (by rw [key_dt, h.1]) h.2 ih
@[simp] def obD : Ob → Option PyData
  | .fz kvs => some (dictD kvs)
  | .fn kvs => some (ndD kvs)
  | .lst ds => some (.list ds)
  | .mat rows => some (.list (rows.map PyData.list))
  | _ => none
theorem Good.shutB (I : Good B σ H S ρ g) {i : Nat} {b : Ob} {d : PyData} (hi : ρ[i]? = some (.ow b)) (hd : obD b = some d) : ∃ S', Same S S' ∧ Good B σ H S' (ρ.set i (.sh d)) g := by
  cases b with
  | lst ds => cases hd; exact I.shut hi
  | mat rows => cases hd; exact I.shutM hi
  | dk _ => cases hd
  | dt _ => cases hd
  | nd _ => cases hd
  | fn kvs =>
    cases hd
    exact I.shutG hi fun S' a o e r => by
      cases r with
      | fn r => exact .dicN e r
  | fz kvs =>
    cases hd
    exact I.shutG hi fun S' a o e r => by
      cases r with
      | fz r => exact .dic e (rpk_of r)
end
@[simp] def scal : PyData → Bool
  | .none => true
  | .bool _ => true
  | .int _ => true
  | .str _ => true
  | _ => false
theorem Rp.scal {S S' : Hp} {v : V} {d : PyData} (r : Rp S v d) (h : scal d = true) : Rp S' v d := by
  cases r with
  | non => exact .non
  | bl b => exact .bl b
  | int i => exact .int i
  | str x => exact .str x
  | lst _ _ => cases h
  | tup _ _ => cases h
  | dic _ _ => cases h
  | dicN _ _ => cases h
theorem Rps.scal {S S' : Hp} : ∀ {ds : List PyData} {vs : List V}, Rps S vs ds → ds.all DL.scal = true → Rps S' vs ds
  | _, _, .nil, _ => .nil
  | _, _, .cons r t, h => by
    rw [List.all_cons, Bool.and_eq_true] at h
    exact .cons (r.scal h.1) (Rps.scal t h.2)
section
variable {X : Cx} {cls : Nat → Value} {W : WX} {pos : Pos} {a b c e : Expr} {fa fb fc : Ex} {D : Ends} {σ : L2.St} {H : Hp} {st : Stmt} {rest : List Stmt}
/-- a thing of one's own is looked at as if it were a datum; what comes of it is no object -/
def peekD (i : Nat) (f : Ex) : Ex := fun ρ g => match ρ[i]? with
  | some (.ow b) => (match obD b with
    | some d => (match f (ρ.set i (.sh d)) g with
      | .ok x g1 => if scal x = true ∧ nob g = true ∧ nob g1 = true then .ok x g1 else .bad
      | _ => .bad)
    | none => .bad)
  | some (.sh _) => f ρ g
  | _ => .bad
def peekT (i : Nat) (f : Te) : Te := fun ρ g => match ρ[i]? with
  | some (.ow b) => (match obD b with
    | some d => (match f (ρ.set i (.sh d)) g with
      | .ok x g1 => if nob g = true ∧ nob g1 = true then .ok x g1 else .bad
      | _ => .bad)
    | none => .bad)
  | some (.sh _) => f ρ g
  | _ => .bad
def peekO (i : Nat) (f : Ow) : Ow := fun ρ g => match ρ[i]? with
  | some (.ow b) => (match obD b with
    | some d => (match f (ρ.set i (.sh d)) g with
      | .ok (.lst xs) g1 => if xs.all scal = true ∧ nob g = true ∧ nob g1 = true then .ok (.lst xs) g1 else .bad
      | _ => .bad)
    | none => .bad)
  | some (.sh _) => f ρ g
  | _ => .bad
theorem ints_one {S : Hp} {v : V} {ns ms : List Int} (h : Rp S v (.list (ns.map PyData.int))) (k : Rp S v (.list (ms.map PyData.int))) : PyData.list (ns.map PyData.int) = .list (ms.map PyData.int) := by
  cases h with
  | lst e1 r1 => cases k with
    | lst e2 r2 =>
      rw [e1] at e2
      injection e2 with e2
      injection e2 with e2
      subst e2
      have h1 := Rps.ints r1
      have h2 := Rps.ints r2
      rw [h1] at h2
      have : ns = ms := by
        clear h1 e1 r1 r2
        induction ns generalizing ms with
        | nil => cases ms with
          | nil => rfl
          | cons _ _ => cases h2
        | cons n r ih => cases ms with
          | nil => cases h2
          | cons m t =>
            rw [List.map_cons, List.map_cons] at h2
            injection h2 with a b
            injection a with a
            rw [a, ih b]
      rw [this]
/-- back from a look -/
theorem Good.unpeek {B : Bs cls} {σ : L2.St} {H S S' H1 S1 : Hp} {ρ ρ' : Nv} {g g1 : G} (I : Good B σ H S ρ g) (sm : Same S S') (I1 : Good B σ H1 S1 ρ' g1) (e : Gr B H S' H1 S1) (n0 : nob g = true) (n1 : nob g1 = true) : Good B σ H1 S ρ g1 ∧ Gr B H S H1 S := by
  have gr : Gr B H S H1 S := ⟨fun a o h n => e.keep a o h fun x => n (x.back sm fun _ => rfl), Same.refl _, fun _ h => .inl h, e.there, fun a x => ⟨x.1, .inl (Exm.nob I1.dr n1 x)⟩⟩
  refine ⟨I.grow gr ((sm.trans e.base).trans I1.sub) ?_, gr⟩
  have d1 : DrAt B H1 S1 g1 := I1.dr
  have d0 : DrAt B H S g := I.dr
  match g1, d1, n1 with
  | none, d1, _ => exact d1
  | some (.ob _ _), _, n1 => cases n1
  | some (.dr ns1 k1), d1, _ =>
    obtain ⟨hl, h1, h2⟩ := d1
    match g, d0, n0 with
    | none, d0, _ =>
      have hn : B.live = false := d0
      rw [hn] at hl; cases hl
    | some (.ob _ _), _, n0 => cases n0
    | some (.dr ns k), d0, _ =>
      obtain ⟨_, _, h3⟩ := d0
      have q : PyData.list (ns.map PyData.int) = .list (ns1.map PyData.int) := ints_one (h3.mono (sm.trans e.base)) h2
      rw [← q] at h2
      refine ⟨hl, h1, ?_⟩
      rw [← q]
      exact h3
theorem peekE_of {i : Nat} {f : Ex} {Q : VK} (h : tE cls W (peekD i f) σ H Q) : tE cls W f σ H Q := by
  obtain ⟨B, S, ρ, g, I, h⟩ := h
  unfold peekD at h
  split at h
  · rename_i b hi
    split at h
    · rename_i d hd
      obtain ⟨S', sm, I'⟩ := I.shutB hi hd
      refine ⟨B, S', _, _, I', ?_⟩
      cases ef : f (ρ.set i (.sh d)) g with
      | bad => rw [ef] at h; exact h
      | ex n g1 => rw [ef] at h; exact False.elim h
      | ok x g1 =>
        rw [ef] at h
        simp only at h
        by_cases hx : scal x = true ∧ nob g = true ∧ nob g1 = true
        · rw [if_pos hx] at h
          intro v H1 S1 I1 e1 r
          obtain ⟨J, gr⟩ := I.unpeek sm I1 e1 hx.2.1 hx.2.2
          exact h v H1 S J gr (r.scal hx.1)
        · rw [if_neg hx] at h; exact False.elim h
    · exact False.elim h
  · exact ⟨B, S, ρ, _, I, h⟩
  · exact False.elim h
theorem peekT_of {i : Nat} {f : Te} {Q : Bool → Hp → Prop} (h : tT cls W (peekT i f) σ H Q) : tT cls W f σ H Q := by
  obtain ⟨B, S, ρ, g, I, h⟩ := h
  unfold peekT at h
  split at h
  · rename_i b hi
    split at h
    · rename_i d hd
      obtain ⟨S', sm, I'⟩ := I.shutB hi hd
      refine ⟨B, S', _, _, I', ?_⟩
      cases ef : f (ρ.set i (.sh d)) g with
      | bad => rw [ef] at h; exact h
      | ex n g1 => rw [ef] at h; exact False.elim h
      | ok x g1 =>
        rw [ef] at h
        simp only at h
        by_cases hx : nob g = true ∧ nob g1 = true
        · rw [if_pos hx] at h
          intro H1 S1 I1 e1
          obtain ⟨J, gr⟩ := I.unpeek sm I1 e1 hx.1 hx.2
          exact h H1 S J gr
        · rw [if_neg hx] at h; exact False.elim h
    · exact False.elim h
  · exact ⟨B, S, ρ, _, I, h⟩
  · exact False.elim h
theorem peekO_of {i : Nat} {f : Ow} {Q : VK} (h : tO cls W (peekO i f) σ H Q) : tO cls W f σ H Q := by
  obtain ⟨B, S, ρ, g, I, h⟩ := h
  unfold peekO at h
  split at h
  · rename_i b hi
    split at h
    · rename_i d hd
      obtain ⟨S', sm, I'⟩ := I.shutB hi hd
      refine ⟨B, S', _, _, I', ?_⟩
      cases ef : f (ρ.set i (.sh d)) g with
      | bad => rw [ef] at h; exact h
      | ex n g1 => rw [ef] at h; exact False.elim h
      | ok x g1 =>
        rw [ef] at h
        cases x with
        | lst xs =>
          simp only at h
          by_cases hx : xs.all scal = true ∧ nob g = true ∧ nob g1 = true
          · rw [if_pos hx] at h
            intro l o H1 S1 I1 e1 n1 n2 ho r
            obtain ⟨J, gr⟩ := I.unpeek sm I1 e1 hx.2.1 hx.2.2
            refine h l o H1 S J gr ?_ n2 ho ?_
            · cases q : S l with
              | none => rfl
              | some u => rw [e1.base _ _ (sm _ _ q)] at n1; cases n1
            · cases r with
              | lst r => exact .lst (r.scal hx.1)
          · rw [if_neg hx] at h; exact False.elim h
        | _ => exact False.elim h
    · exact False.elim h
  · exact ⟨B, S, ρ, _, I, h⟩
  · exact False.elim h
theorem pd_peek (i : Nat) (h : PE X e (tE cls W fa)) : PE X e (tE cls W (peekD i fa)) := PE_imp h fun _ _ _ q => peekE_of q
theorem ptd_peek (i : Nat) {f : Te} (h : PT X e (tT cls W f)) : PT X e (tT cls W (peekT i f)) := PT_imp h fun _ _ _ q => peekT_of q
theorem po_peek (i : Nat) {f : Ow} (h : PE X e (tO cls W f)) : PE X e (tO cls W (peekO i f)) := PE_imp h fun _ _ _ q => peekO_of q
theorem psd_setLcOp (i k : Nat) {y : Str} {py : Pos} {elt tg iter : Expr} {ifs : List Expr} {scope : Scope} {own : List (Str × Nat)} {lpos : Pos} {ts : List Nat} {fi : Ar} {ft : Tg} {fc : Te} {fe : Ex} (hc : X.calm = true) (hN : X.N.Nodup)
    (hsw : swapsWith (.ListComp elt [⟨tg, iter, ifs, 0⟩] scope lpos) (some (.Name y py)) pos.line X.env = pure true) (hi : PI X tg iter (tI cls W fi)) (ok : BlkOk X.N X.env.scope scope own)
    (hg : ∀ (s : Shared) (H : Hp) (C : Addr) (cl : List (Str × Addr)) (fp : List Addr), PG (X.blk s H scope (compEnvC scope cl C X.env) fp) tg (tG ts ft)) (ht : ∀ (s : Shared) (H : Hp) (C : Addr) (cl : List (Str × Addr)) (fp : List Addr), PTs (X.blk s H scope (compEnvC scope cl C X.env) fp) ifs (tT cls W0 fc))
    (he : ∀ (s : Shared) (H : Hp) (C : Addr) (cl : List (Str × Addr)) (fp : List Addr), PE (X.blk s H scope (compEnvC scope cl C X.env) fp) elt (tE cls W0 fe)) (hts : ∀ i ∈ ts, i ∈ own.map (·.2) := by decide) (hy : X.N[i]? = some y := by rfl) (hyl : X.env.scope.names.lookup y = some .local := by rfl)
    (hs : ∀ x, foldedSetIterable iter X.env x = pure x := by intro _; rfl) :
    PS X (.Assign [.Name y py] (.ListComp elt [⟨tg, iter, ifs, 0⟩] scope lpos) pos) (tS cls W (setOS i (peekO k (lcO fi (own.map (·.2)) ft fc fe)))) :=
  PS_imp (ps_setLc hc hN hy hyl hsw hi ok hg ht he hs) fun D σ H h => lc_of hts σ H _ (peekO_of (setOS_of h))
/-- a thing of one's own, list or list of lists, is read as a datum from here on -/
@[simp] def shutXS (i : Nat) (s : Sm) : Sm := fun ρ g => match ρ[i]? with
  | some (.ow b) => (match obD b with
    | some d => s (ρ.set i (.sh d)) g
    | none => .bad)
  | _ => .bad
theorem pssd_shutX (i : Nat) {s : Sm} (h : PSs X rest (tS cls W s)) : PSs X rest (tS cls W (shutXS i s)) := PSs_imp h fun D σ H ⟨B, S, ρ, g, I, h⟩ => by
  unfold shutXS at h
  split at h
  · rename_i b hi
    split at h
    · rename_i d hd
      obtain ⟨S', sm, I'⟩ := I.shutB hi hd
      exact ⟨B, S', _, g, I', SO_gr sm h⟩
    · exact False.elim h
  · exact False.elim h
end
end DL

set_option Elab.async false
set_option linter.all false
set_option maxRecDepth 100000
set_option maxHeartbeats 400000
/-! The data layer, part 8: max, min, abs, is of truth values, index, items set. -/
namespace DL
open PySem PySem.Spec PyProof.Rows L2
variable {cls : Nat → Value}
/-- the greatest, the least of numbers -/
def maxI : List Int → Option Int
  | [] => none
  | n :: r => some (match maxI r with | none => n | some m => if n ≤ m then m else n)
def minI : List Int → Option Int
  | [] => none
  | n :: r => some (match minI r with | none => n | some m => if n ≤ m then n else m)
theorem maxI_spec : ∀ {ns : List Int} {m : Int}, maxI ns = some m → m ∈ ns ∧ ∀ y ∈ ns, y ≤ m
  | [], m, h => by cases h
  | n :: r, m, h => by
    unfold maxI at h
    cases e : maxI r with
    | none =>
      rw [e] at h
      simp only [Option.some.injEq] at h
      subst h
      cases r with
      | nil => exact ⟨by simp, fun y hy => by simp at hy; omega⟩
      | cons a b => unfold maxI at e; cases e
    | some k =>
      rw [e] at h
      obtain ⟨h1, h2⟩ := maxI_spec e
      simp only [Option.some.injEq] at h
      by_cases hk : n ≤ k
      · rw [if_pos hk] at h
        subst h
        exact ⟨List.mem_cons_of_mem _ h1, fun y hy => by
          rcases List.mem_cons.mp hy with rfl | hy
          · exact hk
          · exact h2 y hy⟩
      · rw [if_neg hk] at h
        subst h
        exact ⟨List.mem_cons_self, fun y hy => by
          rcases List.mem_cons.mp hy with rfl | hy
          · exact Int.le_refl _
          · have := h2 y hy; omega⟩
theorem minI_spec : ∀ {ns : List Int} {m : Int}, minI ns = some m → m ∈ ns ∧ ∀ y ∈ ns, m ≤ y
  | [], m, h => by cases h
  | n :: r, m, h => by
    unfold minI at h
    cases e : minI r with
    | none =>
      rw [e] at h
      simp only [Option.some.injEq] at h
      subst h
      cases r with
      | nil => exact ⟨by simp, fun y hy => by simp at hy; omega⟩
      | cons a b => unfold minI at e; cases e
    | some k =>
      rw [e] at h
      obtain ⟨h1, h2⟩ := minI_spec e
      simp only [Option.some.injEq] at h
      by_cases hk : n ≤ k
      · rw [if_pos hk] at h
        subst h
        exact ⟨List.mem_cons_self, fun y hy => by
          rcases List.mem_cons.mp hy with rfl | hy
          · exact Int.le_refl _
          · have := h2 y hy; omega⟩
      · rw [if_neg hk] at h
        subst h
        exact ⟨List.mem_cons_of_mem _ h1, fun y hy => by
          rcases List.mem_cons.mp hy with rfl | hy
          · omega
          · exact h2 y hy⟩
theorem maxI_some {ns : List Int} (h : ns ≠ []) : ∃ m, maxI ns = some m := by
  cases ns with
  | nil => exact absurd rfl h
  | cons n r => exact ⟨_, rfl⟩
theorem minI_some {ns : List Int} (h : ns ≠ []) : ∃ m, minI ns = some m := by
  cases ns with
  | nil => exact absurd rfl h
  | cons n r => exact ⟨_, rfl⟩
theorem maxI_is {ns : List Int} {m : Int} (h1 : m ∈ ns) (h2 : ∀ y ∈ ns, y ≤ m) : maxI ns = some m := by
  obtain ⟨k, hk⟩ := maxI_some (ns := ns) (fun z => by rw [z] at h1; cases h1)
  obtain ⟨k1, k2⟩ := maxI_spec hk
  have := h2 k k1
  have := k2 m h1
  rw [hk]; congr 1; omega
theorem minI_is {ns : List Int} {m : Int} (h1 : m ∈ ns) (h2 : ∀ y ∈ ns, m ≤ y) : minI ns = some m := by
  obtain ⟨k, hk⟩ := minI_some (ns := ns) (fun z => by rw [z] at h1; cases h1)
  obtain ⟨k1, k2⟩ := minI_spec hk
  have := h2 k k1
  have := k2 m h1
  rw [hk]; congr 1; omega
def maxD : PyData → Option PyData
  | .list ds => (intsD ds).bind fun ns => (maxI ns).map PyData.int
  | _ => none
def minD : PyData → Option PyData
  | .list ds => (intsD ds).bind fun ns => (minI ns).map PyData.int
  | _ => none
@[simp] def max2D : PyData → PyData → Option PyData
  | .int i, .int j => some (.int (if j > i then j else i))
  | _, _ => none
@[simp] def min2D : PyData → PyData → Option PyData
  | .int i, .int j => some (.int (if j < i then j else i))
  | _, _ => none
@[simp] def absD : PyData → Option PyData
  | .int i => some (.int (if i < 0 then -i else i))
  | _ => none
@[simp] def isBD : PyData → PyData → Option PyData
  | .bool a, .bool b => some (.bool (decide (a = b)))
  | _, _ => none
@[simp] def notBD : PyData → PyData → Option PyData
  | .bool a, .bool b => some (.bool (!decide (a = b)))
  | _, _ => none
section
variable {X : Cx} {cls : Nat → Value} {W : WX} {pos : Pos} {a b c e : Expr} {fa fb fc : Ex} {D : Ends} {σ : L2.St} {H : Hp} {st : Stmt} {rest : List Stmt} {k : Nat}
theorem sp_max {K : PySem.W.Frag} : Spec1c (rMax K) maxD := fun _ B σ H S ρ g x d v Q e I r k => by
  cases r with
  | @lst a xs ds h q =>
    have e : ((intsD ds).bind fun ns => (maxI ns).map PyData.int) = some d := e
    cases hi : intsD ds with
    | none => rw [hi] at e; cases e
    | some ns =>
      rw [hi] at e
      simp only [Option.bind_some] at e
      obtain ⟨m, hm, rfl⟩ := Option.map_eq_some_iff.mp e
      rw [intsD_eq hi] at q
      have ex := q.ints
      subst ex
      obtain ⟨h1, h2⟩ := maxI_spec hm
      refine ⟨a, ns, rfl, .of (I.sub _ _ h), List.length_pos_of_mem h1, fun m' k1 k2 => ?_⟩
      have e1 := k2 m h1
      have e2 := h2 m' k1
      rw [show m' = m by omega]
      exact k _ H S I .refl (.int _)
  | _ => cases e
theorem sp_min {K : PySem.W.Frag} : Spec1c (rMin K) minD := fun _ B σ H S ρ g x d v Q e I r k => by
  cases r with
  | @lst a xs ds h q =>
    have e : ((intsD ds).bind fun ns => (minI ns).map PyData.int) = some d := e
    cases hi : intsD ds with
    | none => rw [hi] at e; cases e
    | some ns =>
      rw [hi] at e
      simp only [Option.bind_some] at e
      obtain ⟨m, hm, rfl⟩ := Option.map_eq_some_iff.mp e
      rw [intsD_eq hi] at q
      have ex := q.ints
      subst ex
      obtain ⟨h1, h2⟩ := minI_spec hm
      refine ⟨a, ns, rfl, .of (I.sub _ _ h), List.length_pos_of_mem h1, fun m' k1 k2 => ?_⟩
      have e1 := k2 m h1
      have e2 := h2 m' k1
      rw [show m' = m by omega]
      exact k _ H S I .refl (.int _)
  | _ => cases e
theorem pd_max1 {p : Pos} (hc : X.calm = true) (hm : X.mg "max" = none) (ha : PE X a (tE cls W fa)) (hg : Gl X "max" := by rfl) (hs : starEach [a] X.env = (false, eval a X.env) :: starEach [] X.env := by rfl) : PE X (.Call (.Name "max" p) [a] [] pos) (tE cls W (unD maxD fa)) :=
  pd_call1B (cr_max hc) sp_max hm boot_max ha hg (by decide) (by decide) hs
theorem pd_min1 {p : Pos} (hc : X.calm = true) (hm : X.mg "min" = none) (ha : PE X a (tE cls W fa)) (hg : Gl X "min" := by rfl) (hs : starEach [a] X.env = (false, eval a X.env) :: starEach [] X.env := by rfl) : PE X (.Call (.Name "min" p) [a] [] pos) (tE cls W (unD minD fa)) :=
  pd_call1B (cr_min hc) sp_min hm boot_min ha hg (by decide) (by decide) hs
theorem boot_abs : bootBuiltins "abs" = some (.builtin "abs") := by decide +kernel
theorem pd_abs {p : Pos} (hm : X.mg "abs" = none) (ha : PE X a (tE cls W fa)) (hg : Gl X "abs" := by rfl) (hs : starEach [a] X.env = (false, eval a X.env) :: starEach [] X.env := by rfl) : PE X (.Call (.Name "abs" p) [a] [] pos) (tE cls W (unD absD fa)) :=
  pd_call1B call_abs (fun _ B σ H S ρ g x d v Q e I r k => by
    cases r with
    | int i => cases e; exact ⟨i, rfl, k _ H S I .refl (.int _)⟩
    | _ => cases e) hm boot_abs ha hg (by decide) (by decide) hs
/-- a built-in of two data -/
theorem op2_of {r : List V → Hp → VK → Prop} {op : PyData → PyData → Option PyData} (sp : Spec2 (fun x y H Q => r [x, y] H Q) op) (σ : L2.St) (H : Hp) (Q : VK) (h : tE cls W (opD op fa fb) σ H Q) : tCB r (tCons (tE cls W fa) (tCons (tE cls W fb) tNil)) σ H Q :=
  op_of sp σ H Q h
theorem pd_call2B {x : Str} {p : Pos} {id : String} {r : List V → Hp → VK → Prop} {op : PyData → PyData → Option PyData} (hc : CallR X (.builtin id) r) (sp : Spec2 (fun x y H Q => r [x, y] H Q) op) (hm : X.mg x = none) (hv : bootBuiltins x = some (.builtin id)) (ha : PE X a (tE cls W fa)) (hb : PE X b (tE cls W fb)) (hg : Gl X x := by rfl)
    (hn : x ≠ "__name__" := by decide) (hd : (x == ("__debug__" : Str)) = false := by decide) (hs : starEach [a, b] X.env = (false, eval a X.env) :: starEach [b] X.env := by rfl) (hs2 : starEach [b] X.env = (false, eval b X.env) :: starEach [] X.env := by rfl) (hpl : (backTo pos (starEach [b] X.env)).any (·.1) = false := by rfl) :
    PE X (.Call (.Name x p) [a, b] [] pos) (tE cls W (opD op fa fb)) := PE_imp (pe_callB hc hg hm hv (pa_cons ha (pa_cons hb pa_nil hs2) hs) hn hd hs hpl) (op2_of sp)
theorem pd_max2 {p : Pos} (hc : X.calm = true) (hm : X.mg "max" = none) (ha : PE X a (tE cls W fa)) (hb : PE X b (tE cls W fb)) (hg : Gl X "max" := by rfl) (hs : starEach [a, b] X.env = (false, eval a X.env) :: starEach [b] X.env := by rfl) (hs2 : starEach [b] X.env = (false, eval b X.env) :: starEach [] X.env := by rfl) (hpl : (backTo pos (starEach [b] X.env)).any (·.1) = false := by rfl) :
    PE X (.Call (.Name "max" p) [a, b] [] pos) (tE cls W (opD max2D fa fb)) :=
  pd_call2B (call_max2 hc) (fun _ B σ H S ρ g x y d v u Q e I rx ry k => by
    cases rx with
    | int i => cases ry with
      | int j => cases e; exact ⟨i, j, rfl, k _ H S I .refl (.int _)⟩
      | _ => cases e
    | _ => cases e) hm boot_max ha hb hg (by decide) (by decide) hs hs2 hpl
theorem pd_min2 {p : Pos} (hc : X.calm = true) (hm : X.mg "min" = none) (ha : PE X a (tE cls W fa)) (hb : PE X b (tE cls W fb)) (hg : Gl X "min" := by rfl) (hs : starEach [a, b] X.env = (false, eval a X.env) :: starEach [b] X.env := by rfl) (hs2 : starEach [b] X.env = (false, eval b X.env) :: starEach [] X.env := by rfl) (hpl : (backTo pos (starEach [b] X.env)).any (·.1) = false := by rfl) :
    PE X (.Call (.Name "min" p) [a, b] [] pos) (tE cls W (opD min2D fa fb)) :=
  pd_call2B (call_min2 hc) (fun _ B σ H S ρ g x y d v u Q e I rx ry k => by
    cases rx with
    | int i => cases ry with
      | int j => cases e; exact ⟨i, j, rfl, k _ H S I .refl (.int _)⟩
      | _ => cases e
    | _ => cases e) hm boot_min ha hb hg (by decide) (by decide) hs hs2 hpl
theorem c_isB : Cmp X .Is isBD := ⟨_, op_isBl, fun _ B σ H S ρ g x y d v u Q e I rx ry k => by
  cases rx with
  | bl i => cases ry with
    | bl j => cases e; exact ⟨i, j, rfl, rfl, k _ H S I .refl (.bl _)⟩
    | _ => cases e
  | _ => cases e⟩
theorem c_notB : Cmp X .IsNot notBD := ⟨_, op_notBl, fun _ B σ H S ρ g x y d v u Q e I rx ry k => by
  cases rx with
  | bl i => cases ry with
    | bl j => cases e; exact ⟨i, j, rfl, rfl, k _ H S I .refl (.bl _)⟩
    | _ => cases e
  | _ => cases e⟩
/-! ### an item of a list of one's own is set -/
def setIxS (i : Nat) (fk fv : Ex) : Sm := stE fv fun d ρ g => match fk ρ g with
  | .ok (.int k) g2 => (match ρ[i]? with
    | some (.ow (.lst ds)) => (match L2.ixN ds.length k with
      | some j => .nx (ρ.set i (.ow (.lst (ds.set j d)))) g2
      | none => .bad)
    | _ => .bad)
  | _ => .bad
theorem psd_setIx (i : Nat) {x : Str} {p pos' : Pos} (hk : PE X b (tE cls W fb)) (ha : PE X a (tE cls W fa)) (hN : X.N[i]? = some x := by rfl) (hv : Vis X.env.scope x := by first | exact Or.inl rfl | exact Or.inr (Or.inl rfl) | exact Or.inr (Or.inr rfl)) (hd : (x == ("__debug__" : Str)) = false := by decide) (hcd : (x == ("__classdict__" : Str)) = false := by decide)
    (h0 : ∀ v, assign (.Subscript (.Name x p) b pos') X.env v = (do
      let ov ← holding [v] (eval (.Name x p) X.env)
      let iv ← holding [v, ov] (eval b X.env)
      standAt pos'
      holding [v, ov, iv] (setItem ov iv v)
      release [v, ov, iv] []) := by intro _; rfl)
    (hs : swapsWithSole [.Subscript (.Name x p) b pos'] a pos.line X.env = pure false := by rfl) (hw : swappedStores [.Subscript (.Name x p) b pos'] a X.env = pure none := by rfl)
    (h1 : (assignEach [.Subscript (.Name x p) b pos'] X.env).map (·.2) = [assign (.Subscript (.Name x p) b pos') X.env] := by rfl) :
    PS X (.Assign [.Subscript (.Name x p) b pos'] a pos) (tS cls W (setIxS i fb fa)) :=
  PS_imp (ps_asg ha (pg_sub (pe_var hN hv hd hcd) hk set_list h0) hs hw h1) fun D σ H h => st_of h fun B S ρ g d v H1 I r q => by
    cases hi : ρ[i]? with
    | none => rw [hi] at q; cases ek : fb ρ g with
      | ok z g2 => rw [ek] at q; cases z <;> exact False.elim q
      | ex n g2 => rw [ek] at q; exact False.elim q
      | bad => rw [ek] at q; exact False.elim q
    | some z =>
      rw [hi] at q
      cases z with
      | ow o =>
        cases o with
        | lst ds =>
          obtain ⟨l, o, h1, h2, h3, h4, h5, h6⟩ := I.ow i _ hi
          cases h6 with
          | @lst _ vs rv =>
            refine ⟨.ref l, h1, B, S, ρ, g, I, ?_⟩
            cases ek : fb ρ g with
            | bad => rw [ek] at q; exact False.elim q
            | ex n g2 => rw [ek] at q; exact False.elim q
            | ok y g2 =>
              rw [ek] at q
              intro iv H2 S2 I2 e2 r2
              cases r2 with
              | int m =>
                simp only at q
                cases ej : L2.ixN ds.length m with
                | none => rw [ej] at q; exact False.elim q
                | some j =>
                  rw [ej] at q
                  have h5' := e2.keep l _ h5 h3
                  refine ⟨l, vs, m, j, rfl, rfl, h5', by rw [rv.length]; exact ej, ?_⟩
                  exact q _ _ _ (I2.mutO hi h1 (.lst ((rv.mono e2.base).set j (r.mono e2.base))) fun _ z => nomatch z) e2.base
              | _ => exact False.elim q
        | _ => cases ek : fb ρ g with
          | ok z g2 => rw [ek] at q; cases z <;> exact False.elim q
          | ex n g2 => rw [ek] at q; exact False.elim q
          | bad => rw [ek] at q; exact False.elim q
      | _ => cases ek : fb ρ g with
        | ok z g2 => rw [ek] at q; cases z <;> exact False.elim q
        | ex n g2 => rw [ek] at q; exact False.elim q
        | bad => rw [ek] at q; exact False.elim q
end
end DL

set_option Elab.async false
set_option linter.all false
set_option maxRecDepth 100000
set_option maxHeartbeats 400000
/-! The data layer, part 9: lists of lists of one's own. -/
namespace DL
open PySem PySem.Spec PyProof.Rows L2
variable {cls : Nat → Value}
section
variable {B : Bs cls} {σ : L2.St} {H S : Hp} {ρ : Nv} {g : G}
/-- a list of lists of one's own, and its rows, are changed -/
theorem Good.mutR (I : Good B σ H S ρ g) {i : Nat} {b : Ob} {a : Addr} {rows' : List (List PyData)} {cs' : List Addr} (hi : ρ[i]? = some (.ow b)) (ha : σ[i]? = some (some (.ref a))) (H' : Hp) (out : ∀ x, x ≠ a → x ∉ cs' → H' x = H x)
    (h1 : H' a = some (.lst (cs'.map V.ref))) (hl : cs'.length = rows'.length) (hd : cs'.Nodup) (hna : a ∉ cs') (hrow : ∀ (k : Nat) (c : Addr) (row : List PyData), cs'[k]? = some c → rows'[k]? = some row → ∃ vs, H' c = some (.lst vs) ∧ Rps S vs row)
    (hown : ∀ c ∈ cs', S c = none ∧ ¬ Exm B H S c ∧ B.H c = none) (hoth : ∀ (j : Nat) (b : Ob) (a' : Addr), j ≠ i → ρ[j]? = some (.ow b) → σ[j]? = some (some (.ref a')) → a' ∉ cs')
    (hoth2 : ∀ (j : Nat) (rows2 : List (List PyData)) (a2 : Addr) (cs2 : List Addr), j ≠ i → ρ[j]? = some (.ow (.mat rows2)) → σ[j]? = some (some (.ref a2)) → H a2 = some (.lst (cs2.map V.ref)) → ∀ c ∈ cs2, c ∉ cs') : Good B σ H' S (ρ.set i (.ow (.mat rows'))) g := by
  obtain ⟨a0, o, q1, q2, q3, q4, q5, q6⟩ := I.ow i b hi
  have e := addr_of ha q1
  subst e
  have hlt : i < ρ.length := (List.getElem?_eq_some_iff.mp hi).1
  have key : ∀ (j : Nat) (z : Sl), (ρ.set i (.ow (.mat rows')))[j]? = some z → (j = i ∧ z = .ow (.mat rows')) ∨ (j ≠ i ∧ ρ[j]? = some z) := fun j z h => by
    by_cases hj : j = i
    · subst hj
      rw [List.getElem?_set_self hlt] at h
      exact .inl ⟨rfl, (Option.some.inj h).symm⟩
    · rw [List.getElem?_set_ne (Ne.symm hj)] at h
      exact .inr ⟨hj, h⟩
  have isow : ∀ (j : Nat) (c : Ob), (ρ.set i (.ow (.mat rows')))[j]? = some (.ow c) → ∃ c', ρ[j]? = some (.ow c') := fun j c h => by
    rcases key j _ h with ⟨rfl, _⟩ | ⟨_, h⟩
    · exact ⟨b, hi⟩
    · exact ⟨c, h⟩
  have stay : ∀ x, (S x ≠ none ∨ B.H x ≠ none ∨ Exm B H S x) → H' x = H x := fun x h => by
    refine out x (fun z => ?_) fun z => ?_
    · subst z
      rcases h with h | h | h
      · exact h q2
      · exact h q4
      · exact q3 h
    · obtain ⟨k1, k2, k3⟩ := hown x z
      rcases h with h | h | h
      · exact h k1
      · exact h k3
      · exact k2 h
  have other : ∀ (j : Nat) (c : Ob) (x : Addr), j ≠ i → ρ[j]? = some (.ow c) → σ[j]? = some (some (.ref x)) → H' x = H x := fun j c x hj k1 k2 => out x (fun z => hj (I.ap j i c b a k1 hi (by rw [k2, z]) ha)) (hoth j c x hj k1 k2)
  have bk : ∀ {c : Addr}, Exm B H' S c → Exm B H S c := fun x => x.back (Same.refl _) fun hv => stay B.A (.inr (.inr ⟨hv, .inl rfl⟩))
  refine ⟨⟨fun c o q => ?_, fun c o q n => ?_, I.base, I.new, fun c q => ?_, I.no, I.dr.mono (Same.refl _) (fun c x => stay c (.inr (.inr x))) (fun _ _ z => z), fun c h x => I.own c h (bk x)⟩, by rw [List.length_set]; exact I.len, fun j d h => ?_, fun j {_} h => ?_, fun j n h => ?_, fun j c h => ?_, fun j l c d x k1 k2 k3 k4 => ?_, fun j rows x cs k1 k2 k3 => ?_⟩
  · rw [stay c (.inl (by rw [q]; simp))]; exact I.sub _ _ q
  · rw [stay c (.inr (.inl (by rw [q]; simp)))]; exact I.keep c o q n
  · rw [stay c (.inr (.inl q))]; exact I.there c q
  · rcases key j _ h with ⟨rfl, e⟩ | ⟨_, h⟩
    · cases e
    · exact I.sh j d h
  · rcases key j _ h with ⟨rfl, e⟩ | ⟨_, h⟩
    · cases e
    · exact I.dw j h
  · rcases key j _ h with ⟨rfl, e⟩ | ⟨_, h⟩
    · cases e
    · exact I.sw j n h
  · rcases key j _ h with ⟨rfl, e⟩ | ⟨hj, h⟩
    · cases e
      exact ⟨a, _, ha, q2, fun z => q3 (bk z), q4, h1, .mat hl⟩
    · obtain ⟨x, u, p1, p2, p3, p4, p5, p6⟩ := I.ow j c h
      exact ⟨x, u, p1, p2, fun z => p3 (bk z), p4, by rw [other j c x hj h p1]; exact p5, p6⟩
  · obtain ⟨c', k1⟩ := isow j c k1
    obtain ⟨d', k2⟩ := isow l d k2
    exact I.ap j l c' d' x k1 k2 k3 k4
  · rcases key j _ k1 with ⟨ej, e⟩ | ⟨hj, m1⟩
    · subst ej
      injection e with e
      injection e with e
      subst e
      have ex := addr_of ha k2
      subst ex
      rw [h1] at k3
      injection k3 with k3
      injection k3 with k3
      have ec := refs_inj k3
      subst ec
      refine ⟨⟨hd, fun k c row e1 e2 => ?_⟩, fun l c y l1 l2 => ?_, fun l rows2 y cs2 hl2 l1 l2 l3 c hc hc2 => ?_⟩
      · obtain ⟨o1, o2, o3⟩ := hown c (List.mem_of_getElem? e1)
        exact ⟨o1, fun z => o2 (bk z), o3, hrow k c row e1 e2⟩
      · by_cases hlj : l = j
        · subst hlj
          rw [← addr_of ha l2]; exact hna
        · rcases key l _ l1 with ⟨z, _⟩ | ⟨_, l1⟩
          · exact absurd z hlj
          · exact hoth l c y hlj l1 l2
      · rcases key l _ l1 with ⟨z, _⟩ | ⟨_, l1⟩
        · exact hl2 z
        · rw [other l _ y hl2 l1 l2] at l3
          exact hoth2 l rows2 y cs2 hl2 l1 l2 l3 c hc2 hc
    · rw [other j _ x hj m1 k2] at k3
      obtain ⟨R, A1, A2⟩ := I.mx j rows x cs m1 k2 k3
      refine ⟨R.move (Same.refl _) (fun c hc => out c (fun z => A1 i b a hi ha (by rw [← z]; exact hc)) (hoth2 j rows x cs hj m1 k2 k3 c hc)) (fun c hc => (R.row (I.rowsAt m1 k2 k3) hc).1) (fun c _ => bk), fun l c y l1 l2 => ?_, fun l rows2 y cs2 hlj l1 l2 l3 c hc => ?_⟩
      · obtain ⟨c', l1⟩ := isow l c l1
        exact A1 l c' y l1 l2
      · rcases key l _ l1 with ⟨z, e⟩ | ⟨hli, l1⟩
        · subst z
          have ex := addr_of ha l2
          subst ex
          rw [h1] at l3
          injection l3 with l3
          injection l3 with l3
          have ec := refs_inj l3
          subst ec
          exact hoth2 j rows x cs hj m1 k2 k3 c hc
        · rw [other l _ y hli l1 l2] at l3
          exact A2 l rows2 y cs2 hlj l1 l2 l3 c hc
/-- a new row behind the others -/
theorem Good.rowNew {H0 S0 : Hp} {g0 : G} (I0 : Good B σ H0 S0 ρ g0) (I : Good B σ H S ρ g) (gr : Gr B H0 S0 H S) {i : Nat} {rows : List (List PyData)} {xs : List PyData} {a c : Addr} {cs : List Addr} {vs : List V} (hi : ρ[i]? = some (.ow (.mat rows))) (ha : σ[i]? = some (some (.ref a))) (h1 : H a = some (.lst (cs.map V.ref)))
    (n1 : S c = none) (n2 : H0 c = none) (hc : H c = some (.lst vs)) (r : Rps S vs xs) : Good B σ (upd H a (.lst (cs.map V.ref ++ [V.ref c]))) S (ρ.set i (.ow (.mat (rows ++ [xs])))) g := by
  have hl := I.rowsAt hi ha h1
  obtain ⟨R, A1, A2⟩ := I.mx i rows a cs hi ha h1
  -- what was there is not c
  have was : ∀ x, H0 x ≠ none → x ≠ c := fun x h z => h (by rw [z]; exact n2)
  have ownH : ∀ (j : Nat) (b : Ob) (x : Addr), ρ[j]? = some (.ow b) → σ[j]? = some (some (.ref x)) → H0 x ≠ none ∧ H x = H0 x := fun j b x k1 k2 => by
    obtain ⟨x0, o, p1, p2, p3, p4, p5, p6⟩ := I0.ow j b k1
    have e := addr_of k2 p1
    subst e
    exact ⟨by rw [p5]; simp, by rw [p5]; exact gr.keep x o p5 p3⟩
  have matH : ∀ (j : Nat) (rows2 : List (List PyData)) (x : Addr) (cs2 : List Addr), ρ[j]? = some (.ow (.mat rows2)) → σ[j]? = some (some (.ref x)) → H x = some (.lst (cs2.map V.ref)) → ∀ y ∈ cs2, y ≠ c := fun j rows2 x cs2 k1 k2 k3 y hy => by
    rw [(ownH j _ x k1 k2).2] at k3
    exact was y ((I0.mx j rows2 x cs2 k1 k2 k3).1.row (I0.rowsAt k1 k2 k3) hy).2.2.2
  have hac : a ≠ c := was a (ownH i _ a hi ha).1
  have hoc : S c = none ∧ ¬ Exm B H S c ∧ B.H c = none := ⟨n1, fun x => I0.neX n2 (gr.own c x), by
    cases q : B.H c with
    | none => rfl
    | some u => exact absurd n2 (I0.there c (by rw [q]; simp))⟩
  refine I.mutR hi ha (cs' := cs ++ [c]) _ (fun x hx _ => upd_ne hx) (by rw [upd_same, List.map_append]; rfl) (by rw [List.length_append, List.length_append, hl]; rfl) ?_ ?_ ?_ ?_ ?_ ?_
  · rw [List.nodup_append]
    exact ⟨R.nd, by simp, fun x hx y hy => by rw [List.mem_singleton.mp hy]; exact matH i rows a cs hi ha h1 x hx⟩
  · intro z
    rcases List.mem_append.mp z with z | z
    · exact A1 i _ a hi ha z
    · exact hac (List.mem_singleton.mp z)
  · intro k x row e1 e2
    by_cases hk : k < cs.length
    · rw [List.getElem?_append_left hk] at e1
      rw [List.getElem?_append_left (by omega)] at e2
      obtain ⟨_, _, _, ws, w1, w2⟩ := R.at_ k x row e1 e2
      have hx : x ≠ a := fun z => A1 i _ a hi ha (by rw [← z]; exact List.mem_of_getElem? e1)
      exact ⟨ws, by rw [upd_ne hx]; exact w1, w2⟩
    · rw [List.getElem?_append_right (by omega)] at e1
      rw [List.getElem?_append_right (by omega)] at e2
      obtain rfl := List.mem_singleton.mp (List.mem_of_getElem? e1)
      obtain rfl := List.mem_singleton.mp (List.mem_of_getElem? e2)
      exact ⟨vs, by rw [upd_ne (Ne.symm hac)]; exact hc, r⟩
  · intro x hx
    rcases List.mem_append.mp hx with z | z
    · obtain ⟨k1, k2, k3, _⟩ := R.row hl z
      exact ⟨k1, k2, k3⟩
    · rw [List.mem_singleton.mp z]; exact hoc
  · intro j b x hj k1 k2 z
    rcases List.mem_append.mp z with z | z
    · exact A1 j b x k1 k2 z
    · exact was x (ownH j b x k1 k2).1 (List.mem_singleton.mp z)
  · intro j rows2 x cs2 hj k1 k2 k3 y hy z
    rcases List.mem_append.mp z with z | z
    · exact A2 j rows2 x cs2 hj k1 k2 k3 y z hy
    · exact matH j rows2 x cs2 k1 k2 k3 y hy (List.mem_singleton.mp z)
/-- a cell of a row -/
theorem Good.cell (I : Good B σ H S ρ g) {i k : Nat} {rows : List (List PyData)} {row' : List PyData} {a c : Addr} {cs : List Addr} {vs' : List V} (hi : ρ[i]? = some (.ow (.mat rows))) (ha : σ[i]? = some (some (.ref a))) (h1 : H a = some (.lst (cs.map V.ref)))
    (hk : cs[k]? = some c) (r : Rps S vs' row') : Good B σ (upd H c (.lst vs')) S (ρ.set i (.ow (.mat (rows.set k row')))) g := by
  have hl := I.rowsAt hi ha h1
  obtain ⟨R, A1, A2⟩ := I.mx i rows a cs hi ha h1
  have hcm : c ∈ cs := List.mem_of_getElem? hk
  have hac : a ≠ c := fun z => A1 i _ a hi ha (by rw [z]; exact hcm)
  refine I.mutR hi ha (cs' := cs) _ (fun x _ hx => upd_ne fun z => hx (by rw [z]; exact hcm)) (by rw [upd_ne hac]; exact h1) (by rw [List.length_set]; exact hl) R.nd (A1 i _ a hi ha) (fun m x row e1 e2 => ?_) (fun x hx => ?_) (fun j b x _ k1 k2 => A1 j b x k1 k2) fun j rows2 x cs2 hj k1 k2 k3 y hy z => A2 j rows2 x cs2 hj k1 k2 k3 y z hy
  · by_cases hm : m = k
    · subst hm
      rw [hk] at e1
      cases e1
      rw [List.getElem?_set_self (by have := (List.getElem?_eq_some_iff.mp hk).1; omega)] at e2
      cases e2
      exact ⟨vs', upd_same, r⟩
    · rw [List.getElem?_set_ne (Ne.symm hm)] at e2
      obtain ⟨_, _, _, ws, w1, w2⟩ := R.at_ m x row e1 e2
      have hx : x ≠ c := fun z => by
        subst z
        have i1 := (List.getElem?_eq_some_iff.mp hk)
        have i2 := (List.getElem?_eq_some_iff.mp e1)
        exact hm ((List.getElem?_inj (List.getElem?_eq_some_iff.mp e1).1 R.nd).mp (e1.trans hk.symm))
      exact ⟨ws, by rw [upd_ne hx]; exact w1, w2⟩
  · obtain ⟨k1, k2, k3, _⟩ := R.row hl hx
    exact ⟨k1, k2, k3⟩
/-- an empty list as an empty list of lists -/
theorem Good.asMat (I : Good B σ H S ρ g) {i : Nat} (hi : ρ[i]? = some (.ow (.lst []))) : Good B σ H S (ρ.set i (.ow (.mat []))) g := by
  obtain ⟨a, o, q1, q2, q3, q4, q5, q6⟩ := I.ow i _ hi
  cases q6 with
  | @lst _ vs r =>
    cases r with
    | nil => exact I.mutR hi q1 (cs' := []) H (fun _ _ _ => rfl) q5 rfl List.nodup_nil (by simp) (fun k c row e1 _ => by simp at e1) (fun c hc => by cases hc) (fun _ _ _ _ _ _ z => by cases z) fun _ _ _ _ _ _ _ _ _ _ z => by cases z
end
section
variable {X : Cx} {cls : Nat → Value} {W : WX} {pos : Pos} {a b b2 c e : Expr} {fa fb fb2 fc : Ex} {D : Ends} {σ : L2.St} {H : Hp} {st : Stmt} {rest : List Stmt} {k : Nat}
/-- x.append(a new list), x a list of lists of one's own -/
def rowS (i : Nat) (f : Ow) : Sm := fun ρ g => match f ρ g with
  | .ok (.lst xs) g1 => (match ρ[i]? with
    | some (.ow (.mat rows)) => if rows.length < big then .nx (ρ.set i (.ow (.mat (rows ++ [xs])))) g1 else .bad
    | some (.ow (.lst [])) => .nx (ρ.set i (.ow (.mat [xs]))) g1
    | _ => .bad)
  | _ => .bad
theorem big_lt' {n : Nat} (h : n < big) : n < sizeLine := by
  rw [sizeLine_eq]
  unfold big at h
  omega
theorem psd_row (i : Nat) {x : Str} {p apos cpos : Pos} {fo : Ow} (ha : PE X a (tO cls W fo)) (hN : X.N[i]? = some x := by rfl) (hv : Vis X.env.scope x := by first | exact Or.inl rfl | exact Or.inr (Or.inl rfl) | exact Or.inr (Or.inr rfl)) (hd : (x == ("__debug__" : Str)) = false := by decide) (hcd : (x == ("__classdict__" : Str)) = false := by decide)
    (hb : attributeBase (.Name x p) "append" X.env (eval (.Name x p) X.env) = eval (.Name x p) X.env := by rfl)
    (hz : (((((backTo cpos (starEach (a :: []) X.env)).all fun x => !x.1) && (backToKw cpos (keywordEach [] X.env)).all fun x => x.1.isSome) && decide (((a :: ([] : List Expr)).length + ([] : List Keyword).length + if ([] : List Keyword).isEmpty = true then 0 else 1) < 30)) = true) := by rfl)
    (hl : (apos.endLine == cpos.line) = true := by rfl) (hs : starEach [a] X.env = (false, eval a X.env) :: starEach [] X.env := by rfl) (hpl : ((backTo cpos (starEach [] X.env)).any fun x => x.1) = false := by rfl)
    (hsw : swapsWith (.Call (.Attribute (.Name x p) "append" apos) [a] [] cpos) none pos.line X.env = pure false := by rfl) :
    PS X (.Expr (.Call (.Attribute (.Name x p) "append" apos) [a] [] cpos) pos) (tS cls W (rowS i fo)) :=
  PS_imp (ps_expr (pe_bm PySem.F.plainAttrs_list PySem.F.slot_list_append PySem.F.type_list_append mt_append (pe_var hN hv hd hcd) (pa_cons ha pa_nil hs) hb hz hl hs hpl) hsw) fun D σ H ⟨B, S, ρ, g, I, h⟩ => by
    unfold rowS at h
    cases ef : fo ρ g with
    | bad => rw [ef] at h; exact False.elim h
    | ex n g1 => rw [ef] at h; exact False.elim h
    | ok y g1 =>
      rw [ef] at h
      cases y with
      | lst xs =>
        simp only at h
        split at h
        · rename_i rows hi
          by_cases hb : rows.length < big
          · rw [if_pos hb] at h
            obtain ⟨l, cs, h1, h2, h3, h4, h5, h6, R⟩ := I.rows hi
            refine ⟨.ref l, h1, .inl ⟨rfl, _, .of h2⟩, B, S, ρ, g, I, ?_⟩
            rw [ef]
            intro c o H1 S1 I1 e1 n1 n2 ho r
            cases r with
            | @lst _ vs r =>
              have k2 := e1.keep l _ h2 h5
              exact ⟨l, _, .ref c, rfl, rfl, k2, by rw [List.length_map, h3]; exact big_lt' hb, h _ _ _ (I.rowNew I1 e1 hi h1 k2 n1 n2 ho r) e1.base⟩
          · rw [if_neg hb] at h; exact False.elim h
        · rename_i hi
          obtain ⟨l, o, h1, h2, h3, h4, h5, h6⟩ := I.ow i _ hi
          cases h6 with
          | @lst _ vs r0 =>
            cases r0 with
            | nil =>
              refine ⟨.ref l, h1, .inl ⟨rfl, _, .of h5⟩, B, S, ρ, g, I, ?_⟩
              rw [ef]
              intro c o H1 S1 I1 e1 n1 n2 ho r
              cases r with
              | @lst _ ws r =>
                have hlt : i < ρ.length := (List.getElem?_eq_some_iff.mp hi).1
                have k2 := e1.keep l _ h5 h3
                have q := (I.asMat hi).rowNew (I1.asMat hi) e1 (rows := []) (cs := []) (List.getElem?_set_self hlt) h1 k2 n1 n2 ho r
                rw [List.set_set] at q
                exact ⟨l, _, .ref c, rfl, rfl, k2, by rw [sizeLine_eq]; exact (by decide), h _ _ _ q e1.base⟩
        · exact False.elim h
      | _ => exact False.elim h
/-- x[e1][e2] = e3, x a list of lists of one's own -/
def cellS (i : Nat) (f1 f2 fv : Ex) : Sm := stE fv fun d ρ g => match f1 ρ g with
  | .ok (.int k1) g1 => (match f2 ρ g1 with
    | .ok (.int k2) g2 => (match ρ[i]? with
      | some (.ow (.mat rows)) => (match L2.ixN rows.length k1 with
        | some j => (match rows[j]? with
          | some row => (match L2.ixN row.length k2 with
            | some m => .nx (ρ.set i (.ow (.mat (rows.set j (row.set m d))))) g2
            | none => .bad)
          | none => .bad)
        | none => .bad)
      | _ => .bad)
    | _ => .bad)
  | _ => .bad
theorem psd_cell (i : Nat) {x : Str} {p pos' pos2 : Pos} (hk : PE X b (tE cls W fb)) (hk2 : PE X b2 (tE cls W fb2)) (ha : PE X a (tE cls W fa)) (hN : X.N[i]? = some x := by rfl) (hv : Vis X.env.scope x := by first | exact Or.inl rfl | exact Or.inr (Or.inl rfl) | exact Or.inr (Or.inr rfl)) (hd : (x == ("__debug__" : Str)) = false := by decide) (hcd : (x == ("__classdict__" : Str)) = false := by decide)
    (h0 : ∀ v, assign (.Subscript (.Subscript (.Name x p) b pos2) b2 pos') X.env v = (do
      let ov ← holding [v] (eval (.Subscript (.Name x p) b pos2) X.env)
      let iv ← holding [v, ov] (eval b2 X.env)
      standAt pos'
      holding [v, ov, iv] (setItem ov iv v)
      release [v, ov, iv] []) := by intro _; rfl)
    (hs : swapsWithSole [.Subscript (.Subscript (.Name x p) b pos2) b2 pos'] a pos.line X.env = pure false := by rfl) (hw : swappedStores [.Subscript (.Subscript (.Name x p) b pos2) b2 pos'] a X.env = pure none := by rfl)
    (h1 : (assignEach [.Subscript (.Subscript (.Name x p) b pos2) b2 pos'] X.env).map (·.2) = [assign (.Subscript (.Subscript (.Name x p) b pos2) b2 pos') X.env] := by rfl) (hpl : PlainIx b := by exact fun _ _ => rfl) :
    PS X (.Assign [.Subscript (.Subscript (.Name x p) b pos2) b2 pos'] a pos) (tS cls W (cellS i fb fb2 fa)) :=
  PS_imp (ps_asg ha (pg_sub (pe_ix ix_list (pe_var hN hv hd hcd) hk hpl) hk2 set_list h0) hs hw h1) fun D σ H h => st_of h fun B S ρ g d v H1 I r q => by
    split at q
    · rename_i k1 g1 e1
      split at q
      · rename_i k2 g2 e2
        split at q
        · rename_i rows hi
          split at q
          · rename_i j ej
            split at q
            · rename_i row er
              split at q
              · rename_i m em
                obtain ⟨l, cs, h1, h2, h3, h4, h5, h6, R⟩ := I.rows hi
                refine ⟨.ref l, h1, B, S, ρ, g, I, ?_⟩
                rw [e1]
                intro iv H2 S2 I2 gr2 r2
                cases r2 with
                | int _ =>
                  have k2' := gr2.keep l _ h2 h5
                  obtain ⟨R2, _⟩ := I2.mx i rows l cs hi h1 k2'
                  have hj : j < cs.length := by rw [h3]; exact (List.getElem?_eq_some_iff.mp er).1
                  obtain ⟨o1, o2, o3, vs, o4, o5⟩ := R2.at_ j cs[j] row (List.getElem?_eq_getElem hj) er
                  refine ⟨l, _, k1, .ref cs[j], rfl, rfl, .of k2', ?_, B, S2, ρ, g1, I2, ?_⟩
                  · unfold L2.atI
                    rw [List.length_map, h3, ej]
                    show (cs.map V.ref)[j]? = _
                    rw [List.getElem?_map, List.getElem?_eq_getElem hj]
                    rfl
                  · rw [e2]
                    intro iv3 H3 S3 I3 gr3 r3
                    cases r3 with
                    | int _ =>
                      have k3' := gr3.keep l _ k2' fun x => h5 (gr2.own _ x)
                      have o4' := gr3.keep cs[j] _ o4 o2
                      refine ⟨cs[j], vs, k2, m, rfl, rfl, o4', by rw [o5.length]; exact em, ?_⟩
                      exact q _ _ _ (I3.cell hi h1 k3' (List.getElem?_eq_getElem hj) ((o5.mono gr3.base).set m (r.mono (gr2.base.trans gr3.base)))) (gr2.base.trans gr3.base)
              · exact False.elim q
            · exact False.elim q
          · exact False.elim q
        · exact False.elim q
      · exact False.elim q
    · exact False.elim q
end
end DL

set_option Elab.async false
set_option linter.all false
set_option maxRecDepth 100000
set_option maxHeartbeats 400000
/-! The data layer, part 10: xs[e] of a list of one's own, [..] * n of one's own, list(range(n)), xs.index(truth value). -/
namespace DL
open PySem PySem.Spec PyProof.Rows L2
variable {cls : Nat → Value}
section
variable {X : Cx} {cls : Nat → Value} {W : WX} {pos : Pos} {a b c e : Expr} {fa fb fc : Ex} {D : Ends} {σ : L2.St} {H : Hp} {k : Nat}
/-- x[e], x a list of one's own: an item of it is a datum -/
def ixO (i : Nat) (f : Ex) : Ex := fun ρ g => match ρ[i]? with
  | some (.ow (.lst ds)) => (f ρ g).bind fun d g1 => match d with
    | .int k => ofO (L2.atI ds k) g1
    | _ => .bad
  | _ => .bad
theorem pd_ixO (i : Nat) {x : Str} {p : Pos} (hb : PE X b (tE cls W fb)) (hN : X.N[i]? = some x := by rfl) (hv : Vis X.env.scope x := by first | exact Or.inl rfl | exact Or.inr (Or.inl rfl) | exact Or.inr (Or.inr rfl)) (hd : (x == ("__debug__" : Str)) = false := by decide) (hcd : (x == ("__classdict__" : Str)) = false := by decide) (hs : PlainIx b := by exact fun _ _ => rfl) :
    PE X (.Subscript (.Name x p) b pos) (tE cls W (ixO i fb)) :=
  PE_imp (pe_ix ix_list (pe_var hN hv hd hcd) hb hs) fun σ H Q ⟨B, S, ρ, g, I, h⟩ => by
    unfold ixO at h
    split at h
    · rename_i ds hi
      obtain ⟨l, o, h1, h2, h3, h4, h5, h6⟩ := I.ow i _ hi
      cases h6 with
      | @lst _ vs r0 =>
        refine ⟨.ref l, h1, B, S, ρ, g, I, ?_⟩
        cases eb : fb ρ g with
        | bad => rw [eb] at h; exact h
        | ex n g1 => rw [eb] at h; exact h
        | ok d g1 =>
          rw [eb] at h
          intro u H1 S1 I1 e1 r1
          simp only [R.bind_ok] at h
          cases r1 with
          | int m =>
            simp only at h
            cases ej : L2.atI ds m with
            | none => rw [ej] at h; exact False.elim h
            | some d =>
              rw [ej] at h
              have r0' := r0.mono e1.base
              unfold L2.atI at ej
              cases en : L2.ixN ds.length m with
              | none => rw [en] at ej; cases ej
              | some j =>
                rw [en] at ej
                obtain ⟨v, k1, k2⟩ := r0'.getD (i := j) (d := d) ej
                refine ⟨l, vs, m, v, rfl, rfl, .of (e1.keep l _ h5 h3), ?_, h v H1 S1 I1 e1 k2⟩
                unfold L2.atI
                rw [r0.length, en]
                exact k1
          | _ => exact False.elim h
    · exact False.elim h
/-- [..] * n, a new list -/
def mulO (fa fb : Ex) : Ow := fun ρ g => (fa ρ g).bind fun x g1 => (fb ρ g1).bind fun y g2 => match x, y with
  | .list ds, .int j => if -1000000 ≤ j ∧ j ≤ 1000000 ∧ ds.length * j.toNat ≤ big then .ok (.lst (List.replicate j.toNat ds).flatten) g2 else .bad
  | _, _ => .bad
theorem po_mul (ha : PE X a (tE cls W fa)) (hb : PE X b (tE cls W fb)) : PE X (.BinOp a .Mult b pos) (tO cls W (mulO fa fb)) :=
  PE_imp (pe_op op_mulA ha hb) fun σ H Q ⟨B, S, ρ, g, I, h⟩ => by
    unfold mulO at h
    refine ⟨B, S, ρ, g, I, ?_⟩
    cases ea : fa ρ g with
    | bad => rw [ea] at h; exact h
    | ex n g1 => rw [ea] at h; exact h
    | ok x g1 =>
      rw [ea] at h
      intro v H1 S1 I1 e1 r1
      refine ⟨B, S1, ρ, g1, I1, ?_⟩
      simp only [R.bind_ok] at h
      cases eb : fb ρ g1 with
      | bad => rw [eb] at h; exact h
      | ex n g2 => rw [eb] at h; exact fun H' S' I' e' => h H' S' I' (e1.trans e')
      | ok y g2 =>
        rw [eb] at h
        intro u H2 S2 I2 e2 r2
        simp only [R.bind_ok] at h
        cases r1 with
        | @lst l xs ds hx qx =>
          cases r2 with
          | int j =>
            simp only at h
            by_cases hz : -1000000 ≤ j ∧ j ≤ 1000000 ∧ ds.length * j.toNat ≤ big
            · rw [if_pos hz] at h
              refine .inr (.inr ⟨l, j, xs, rfl, rfl, I2.sub _ _ (e2.base _ _ hx), by omega, by omega, big_line (by rw [qx.length]; exact hz.2.2), fun p hp => ?_⟩)
              obtain ⟨I3, e3⟩ := I2.allocO (o := .lst (List.replicate j.toNat xs).flatten) hp
              have e13 := (e1.trans e2).trans e3
              exact h p _ _ S2 I3 e13 (I2.stay hp) (none_back (e1.trans e2) hp) upd_same (.lst ((qx.mono e2.base).flatten _))
            · rw [if_neg hz] at h; exact False.elim h
          | _ => exact False.elim h
        | _ => exact False.elim h
/-- list(range(n)) -/
def listRgD : PyData → Option PyData
  | .int n => if n ≤ (big : Int) ∧ -(big : Int) ≤ n then some (.list (upFrom 0 n.toNat)) else none
  | _ => none
theorem rg_up (S : Hp) (n : Int) : Rps S (rgV 0 n) (upFrom 0 n.toNat) := by
  refine Rps.of_get (by unfold rgV upFrom; rw [List.length_map, List.length_map, List.length_range, List.length_range]; omega) fun k v d h1 h2 => ?_
  unfold rgV at h1
  unfold upFrom at h2
  rw [List.getElem?_map] at h1 h2
  obtain ⟨i, hi, rfl⟩ := Option.map_eq_some_iff.mp h1
  obtain ⟨j, hj, rfl⟩ := Option.map_eq_some_iff.mp h2
  have e1 := (List.getElem?_eq_some_iff.mp hi).2
  have e2 := (List.getElem?_eq_some_iff.mp hj).2
  rw [List.getElem_range] at e1 e2
  subst e1 e2
  exact .int _
theorem pd_listRg {p p2 pos2 : Pos} (hc : X.calm = true) (hm : X.mg "list" = none) (hm2 : X.mg "range" = none) (ha : PE X a (tE cls W fa)) (hg : Gl X "list" := by rfl) (hg2 : Gl X "range" := by rfl)
    (na : starEach [a] X.env = (false, eval a X.env) :: starEach [] X.env := by rfl) (na2 : starEach [Expr.Call (.Name "range" p2) [a] [] pos2] X.env = (false, eval (Expr.Call (.Name "range" p2) [a] [] pos2) X.env) :: starEach [] X.env := by rfl) :
    PE X (.Call (.Name "list" p) [.Call (.Name "range" p2) [a] [] pos2] [] pos) (tE cls W (unD listRgD fa)) :=
  PE_imp (pe_listRg hc hg hm (prg_1 hg2 hm2 ha na) na2) fun σ H Q h => un_of (r := fun x H1 Q => ∃ n, x = .int n ∧ RgOk 0 n ∧ ∀ q, H1 q = none → Q (.ref q) (upd H1 q (.lst (rgV 0 n)))) (fun _ B σ H S ρ g x d v Q e I r k => by
    cases r with
    | int n =>
      unfold listRgD at e
      by_cases hz : n ≤ (big : Int) ∧ -(big : Int) ≤ n
      · simp only [if_pos hz] at e
        cases e
        unfold big at hz
        refine ⟨n, rfl, ⟨by omega, by omega, by omega, by omega, by omega⟩, fun q hq => ?_⟩
        obtain ⟨I2, e2⟩ := I.alloc (o := .lst (rgV 0 n)) hq
        exact k _ _ _ I2 e2 (.lst upd_same (rg_up _ n))
      · simp only [if_neg hz] at e; cases e
    | _ => cases e) σ H Q h
/-- xs.index(a truth value), xs a list of truth values -/
def boolsD : List PyData → Option (List Bool)
  | [] => some []
  | .bool b :: ds => (boolsD ds).map (b :: ·)
  | _ :: _ => none
theorem boolsD_eq : ∀ {ds : List PyData} {bs : List Bool}, boolsD ds = some bs → ds = bs.map PyData.bool
  | [], bs, e => by cases e; rfl
  | d :: ds, bs, e => by
    cases d with
    | bool b =>
      simp only [boolsD] at e
      obtain ⟨r, hr, rfl⟩ := Option.map_eq_some_iff.mp e
      rw [boolsD_eq hr]; rfl
    | _ => cases e
theorem boolsD_map : ∀ bs : List Bool, boolsD (bs.map PyData.bool) = some bs
  | [] => rfl
  | b :: r => by simp [boolsD, boolsD_map r]
theorem Rps.bools {S : Hp} : ∀ {bs : List Bool} {vs : List V}, Rps S vs (bs.map PyData.bool) → vs = bs.map V.bl
  | [], _, .nil => rfl
  | b :: bs, _, .cons r t => by cases r; rw [Rps.bools t]; rfl
def indexD : PyData → PyData → Option PyData
  | .list ds, .bool b => (boolsD ds).bind fun bs => if b ∈ bs then some (.int (bs.findIdx (· == b))) else none
  | .list ds, .int i => (intsD ds).bind fun bs => if i ∈ bs then some (.int (bs.findIdx (· == i))) else none
  | _, _ => none
@[simp] def indexE (fa fb : Ex) : Ex := fun ρ g => (fa ρ g).bind fun x g1 => match x with
  | .list ds => (fb ρ g1).bind fun y g2 => ofO (indexD (.list ds) y) g2
  | _ => .bad
theorem pd_index {o : Expr} {apos cpos : Pos} (ho : PE X o (tE cls W fa)) (he : PE X e (tE cls W fb)) (hbase : attributeBase o "index" X.env (eval o X.env) = eval o X.env := by rfl)
    (hfew : ((backTo cpos (starEach (e :: []) X.env)).all (fun x => !x.1) && (backToKw cpos (keywordEach [] X.env)).all (fun x => x.1.isSome)
      && decide ((e :: ([] : List Expr)).length + ([] : List Keyword).length + (if ([] : List Keyword).isEmpty then 0 else 1) < 30)) = true := by rfl)
    (hline : (apos.endLine == cpos.line) = true := by rfl) (hs : starEach (e :: []) X.env = (false, eval e X.env) :: starEach [] X.env := by rfl) (hplain : (backTo cpos (starEach [] X.env)).any (·.1) = false := by rfl) :
    PE X (.Call (.Attribute o "index" apos) (e :: []) [] cpos) (tE cls W (indexE fa fb)) :=
  PE_imp (pe_bm PySem.F.plainAttrs_list PySem.F.slot_list_index PySem.F.type_list_index mt_index ho (pa_cons he pa_nil hs) hbase hfew hline hs hplain) fun σ H Q ⟨B, S, ρ, g, I, h⟩ => by
    unfold indexE at h
    refine ⟨B, S, ρ, g, I, ?_⟩
    cases ea : fa ρ g with
    | bad => rw [ea] at h; exact h
    | ex n g1 => rw [ea] at h; exact h
    | ok x g1 =>
      rw [ea] at h
      simp only [R.bind_ok] at h
      intro v H1 S1 I1 e1 r1
      cases r1 with
      | @lst l xs ds hx qx =>
        refine ⟨.inl ⟨rfl, xs, .of (I1.sub _ _ hx)⟩, B, S1, ρ, g1, I1, ?_⟩
        cases eb : fb ρ g1 with
        | bad => rw [eb] at h; exact h
        | ex n g2 => rw [eb] at h; exact fun H' S' I' e' => h H' S' I' (e1.trans e')
        | ok y g2 =>
          rw [eb] at h
          simp only [R.bind_ok] at h
          intro u H2 S2 I2 e2 r2
          cases r2 with
          | bl b =>
            unfold indexD at h
            simp only at h
            cases hb : boolsD ds with
            | none => rw [hb] at h; exact False.elim h
            | some bs =>
              rw [hb] at h
              simp only [Option.bind_some] at h
              by_cases hm : b ∈ bs
              · rw [if_pos hm] at h
                rw [boolsD_eq hb] at qx
                have ex := qx.bools
                subst ex
                have hlt : bs.findIdx (· == b) < bs.length := List.findIdx_lt_length_of_exists ⟨b, hm, by simp⟩
                refine ⟨l, _, .bl b, bs.findIdx (· == b), .bl bs[bs.findIdx (· == b)], rfl, rfl, .of (I2.sub _ _ (e2.base _ _ hx)), rfl, ?_, ?_, ?_, ?_, ?_⟩
                · rw [List.all_eq_true]
                  intro z hz
                  obtain ⟨y, _, rfl⟩ := List.mem_map.mp hz
                  rfl
                · rw [List.getElem?_map, List.getElem?_eq_getElem hlt]; rfl
                · have := List.findIdx_getElem (w := hlt)
                  exact this
                · intro m z' hm' hz
                  rw [List.getElem?_map] at hz
                  obtain ⟨y, hy, rfl⟩ := Option.map_eq_some_iff.mp hz
                  have := List.not_of_lt_findIdx hm'
                  rw [(List.getElem?_eq_some_iff.mp hy).2] at this
                  exact this
                · exact h _ H2 S2 I2 (e1.trans e2) (.int _)
              · rw [if_neg hm] at h; exact False.elim h
          | int b =>
            unfold indexD at h
            simp only at h
            cases hb : intsD ds with
            | none => rw [hb] at h; exact False.elim h
            | some bs =>
              rw [hb] at h
              simp only [Option.bind_some] at h
              by_cases hm : b ∈ bs
              · rw [if_pos hm] at h
                rw [intsD_eq hb] at qx
                have ex := qx.ints
                subst ex
                have hlt : bs.findIdx (· == b) < bs.length := List.findIdx_lt_length_of_exists ⟨b, hm, by simp⟩
                refine ⟨l, _, .int b, bs.findIdx (· == b), .int bs[bs.findIdx (· == b)], rfl, rfl, .of (I2.sub _ _ (e2.base _ _ hx)), rfl, ?_, ?_, ?_, ?_, ?_⟩
                · rw [List.all_eq_true]
                  intro z hz
                  obtain ⟨y, _, rfl⟩ := List.mem_map.mp hz
                  rfl
                · rw [List.getElem?_map, List.getElem?_eq_getElem hlt]; rfl
                · have := List.findIdx_getElem (w := hlt)
                  exact this
                · intro m z' hm' hz
                  rw [List.getElem?_map] at hz
                  obtain ⟨y, hy, rfl⟩ := Option.map_eq_some_iff.mp hz
                  have := List.not_of_lt_findIdx hm'
                  rw [(List.getElem?_eq_some_iff.mp hy).2] at this
                  exact this
                · exact h _ H2 S2 I2 (e1.trans e2) (.int _)
              · rw [if_neg hm] at h; exact False.elim h
          | _ => exact False.elim h
      | _ => exact False.elim h
/-- a test A if c else B -/
@[simp] def ifT (t a b : Te) : Te := fun ρ g => (t ρ g).bind fun k g1 => if k = true then a ρ g1 else b ρ g1
theorem pwd_ifx {c a b : Expr} {fc fa fb : Te} (hc : PT X c (tT cls W fc)) (ha : PT X a (tT cls W fa)) (hb : PT X b (tT cls W fb)) : PW X (.IfExp c a b pos) (tT cls W (ifT fc fa fb)) := by
  refine ⟨fun wh pins s σ H Q I h => ?_⟩
  obtain ⟨B, S, ρ, g, I0, h⟩ := h
  unfold ifT at h
  refine PyProof.Rows.isTrue_IfExp ?_
  refine thn (hc.run pins s σ H (fun k H1 => if k = true then tT cls W fa σ H1 Q else tT cls W fb σ H1 Q) I ⟨B, S, ρ, g, I0, ?_⟩) fun k s1 ⟨H1, I1, q1⟩ => ?_
  · cases ec : fc ρ g with
    | bad => rw [ec] at h; exact h
    | ex n g1 => rw [ec] at h; exact h
    | ok k g1 =>
      rw [ec] at h
      simp only [R.bind_ok] at h
      intro H1 S1 I1 e1
      cases k with
      | true => exact ⟨B, S1, ρ, g1, I1, TO_gr e1 h⟩
      | false => exact ⟨B, S1, ρ, g1, I1, TO_gr e1 h⟩
  · cases k with
    | true => exact ha.run pins s1 σ H1 Q I1 q1
    | false => exact hb.run pins s1 σ H1 Q I1 q1
end
end DL

set_option Elab.async false
set_option linter.all false
set_option maxRecDepth 100000
set_option maxHeartbeats 400000
/-! The data layer, part 11: lists of new lists, made at once. -/
namespace DL
open PySem PySem.Spec PyProof.Rows L2
variable {cls : Nat → Value}
section
variable {B : Bs cls} {σ : L2.St} {H S : Hp} {ρ : Nv} {g : G}
/-- what nobody holds may be changed -/
theorem Good.updD {H0 S0 : Hp} {g0 : G} (I0 : Good B σ H0 S0 ρ g0) (I : Good B σ H S ρ g) {D : Addr} (o' : HO) (nD : H0 D = none) (sD : S D = none) (keepO : ∀ a o, H0 a = some o → ¬ Exm B H0 S0 a → H a = some o) (xD : ¬ Exm B H S D) : Good B σ (upd H D o') S ρ g := by
  have bk : ∀ {c : Addr}, Exm B (upd H D o') S c → Exm B H S c := fun x => x.back (Same.refl _) fun hl => upd_ne fun z => I0.neA nD hl z
  refine ⟨⟨fun a o q => ?_, fun a o q n => ?_, I.base, I.new, fun a q => ?_, I.no, ?_, fun a h x => I.own a h (bk x)⟩, I.len, I.sh, I.dw, I.sw, fun j b q => ?_, I.ap, I.mxMove (Same.refl _) (fun i b h => ⟨⟨b, h⟩, rfl⟩) (fun i rows h => h) (fun j rows a' q k => ?_) fun j rows a' cs _ q k k3 x hx => ?_⟩
  · rw [upd_ne (ne_of_none q sD)]; exact I.sub _ _ q
  · have hB : B.H D = none := by
      cases z : B.H D with
      | none => rfl
      | some u => exact absurd nD (I0.there D (by rw [z]; simp))
    rw [upd_ne (ne_of_none q hB)]; exact I.keep a o q n
  · by_cases ha : a = D
    · subst ha; rw [upd_same]; simp
    · rw [upd_ne ha]; exact I.there a q
  · exact I.dr.mono (Same.refl _) (fun c x => upd_ne fun z => xD (by rw [← z]; exact x)) fun _ _ z => z
  · obtain ⟨a, o, h1, h2, h4, h5, h6, h7⟩ := I.ow j b q
    obtain ⟨a', o2, k1, _, _, _, k5, _⟩ := I0.ow j b q
    have ea := addr_of h1 k1
    subst ea
    have hne : a ≠ D := fun z => by rw [z, nD] at k5; cases k5
    exact ⟨a, o, h1, h2, fun x => h4 (bk x), h5, by rw [upd_ne hne]; exact h6, h7⟩
  · obtain ⟨a0, o, k1, _, _, _, k5, _⟩ := I0.ow j _ q
    have ea := addr_of k k1
    subst ea
    have hne : a' ≠ D := fun z => by rw [z, nD] at k5; cases k5
    exact upd_ne hne
  · have g7 := (I.mx j rows a' cs q k k3).1.row (I.rowsAt q k k3) hx
    have hne : x ≠ D := fun z => by
      subst z
      obtain ⟨a0, o0, l1, _, l3, _, l5, _⟩ := I0.ow j _ q
      have ea := addr_of k l1
      subst ea
      have l6 := keepO a' o0 l5 l3
      rw [k3] at l6
      rw [← l6] at l5
      exact ((I0.mx j rows a' cs q k l5).1.row (I0.rowsAt q k l5) hx).2.2.2 nD
    exact ⟨upd_ne hne, g7.1, bk⟩
/-- the rows made so far -/
structure RowsM (H1 : Hp) (D : Addr) (H S : Hp) (cs : List Addr) (rows : List (List PyData)) : Prop where
  len : cs.length = rows.length
  nd : cs.Nodup
  fr : ∀ c ∈ cs, H1 c = none ∧ c ≠ D
  at_ : ∀ (k : Nat) (c : Addr) (row : List PyData), cs[k]? = some c → rows[k]? = some row → S c = none ∧ ∃ ws, H c = some (.lst ws) ∧ Rps S ws row
theorem RowsM.row {H1 : Hp} {D : Addr} {cs : List Addr} {rows : List (List PyData)} (R : RowsM H1 D H S cs rows) {c : Addr} (hc : c ∈ cs) : S c = none ∧ ∃ ws, H c = some (.lst ws) := by
  obtain ⟨k, hk, rfl⟩ := List.getElem_of_mem hc
  have hk2 : k < rows.length := by rw [← R.len]; exact hk
  obtain ⟨h1, ws, h2, _⟩ := R.at_ k cs[k] (rows[k]) (List.getElem?_eq_getElem hk) (List.getElem?_eq_getElem hk2)
  exact ⟨h1, ws, h2⟩
theorem RowsM.gr {H1 H' S' : Hp} {D : Addr} {cs : List Addr} {rows : List (List PyData)} (R : RowsM H1 D H S cs rows) (na : ∀ c, H1 c = none → ¬ Exm B H S c) (e : Gr B H S H' S') : RowsM H1 D H' S' cs rows :=
  ⟨R.len, R.nd, R.fr, fun k c row h1 h2 => by
    obtain ⟨q1, ws, q2, q3⟩ := R.at_ k c row h1 h2
    exact ⟨none_of e (by rw [q2]; simp) q1, ws, e.keep c _ q2 (na c (R.fr c (List.mem_of_getElem? h1)).1), q3.mono e.base⟩⟩
theorem RowsM.updD {H1 : Hp} {D : Addr} {cs : List Addr} {rows : List (List PyData)} {o : HO} (R : RowsM H1 D H S cs rows) : RowsM H1 D (upd H D o) S cs rows :=
  ⟨R.len, R.nd, R.fr, fun k c row h1 h2 => by
    obtain ⟨q1, ws, q2, q3⟩ := R.at_ k c row h1 h2
    exact ⟨q1, ws, by rw [upd_ne (R.fr c (List.mem_of_getElem? h1)).2]; exact q2, q3⟩⟩
theorem RowsM.snoc {H1 : Hp} {D c : Addr} {cs : List Addr} {rows : List (List PyData)} {row : List PyData} {ws : List V} (R : RowsM H1 D H S cs rows) (h1 : c ∉ cs) (h2 : H1 c = none) (h3 : c ≠ D) (h4 : S c = none) (h5 : H c = some (.lst ws)) (h6 : Rps S ws row) : RowsM H1 D H S (cs ++ [c]) (rows ++ [row]) := by
  refine ⟨by rw [List.length_append, List.length_append, R.len]; rfl, ?_, fun x hx => ?_, fun k x r e1 e2 => ?_⟩
  · rw [List.nodup_append]
    exact ⟨R.nd, by simp, fun x hx y hy z => h1 (by rw [← List.mem_singleton.mp hy, ← z]; exact hx)⟩
  · rcases List.mem_append.mp hx with z | z
    · exact R.fr x z
    · rw [List.mem_singleton.mp z]; exact ⟨h2, h3⟩
  · by_cases hk : k < cs.length
    · rw [List.getElem?_append_left hk] at e1
      rw [List.getElem?_append_left (by rw [← R.len]; exact hk)] at e2
      exact R.at_ k x r e1 e2
    · rw [List.getElem?_append_right (by omega)] at e1
      rw [List.getElem?_append_right (by rw [← R.len]; omega)] at e2
      obtain rfl := List.mem_singleton.mp (List.mem_of_getElem? e1)
      obtain rfl := List.mem_singleton.mp (List.mem_of_getElem? e2)
      exact ⟨h4, ws, h5, h6⟩
end
def compM (tg : Tg) (elt : Ow) : List PyData → Nv → G → R (List (List PyData))
  | [], _, g => .ok [] g
  | d :: ds, ρ, g => match tg d ρ with
    | none => .bad
    | some ρ1 => match elt ρ1 g with
      | .ok (.lst x) g2 => (compM tg elt ds ρ g2).bind fun xs g3 => .ok (x :: xs) g3
      | _ => .bad
theorem compM_noex {tg : Tg} {elt : Ow} : ∀ {ds : List PyData} {ρ : Nv} {g g' : G} {n : Nat}, compM tg elt ds ρ g ≠ .ex n g'
  | [], ρ, g, g', n, h => by cases h
  | d :: ds, ρ, g, g', n, h => by
    unfold compM at h
    split at h
    · cases h
    · split at h
      · rename_i x g2 _
        cases e : compM tg elt ds ρ g2 with
        | ok a g3 => rw [e] at h; cases h
        | ex n2 g3 => exact compM_noex e
        | bad => rw [e] at h; cases h
      · cases h
def finM (i : Nat) (ρ : Nv) : R (List (List PyData)) → SR
  | .ok rows g => .nx (ρ.set i (.ow (.mat rows))) g
  | _ => .bad
/-- x = [a new list for ..], x a list of lists of one's own -/
def lcMS (i : Nat) (fi : Ar) (own : List Nat) (tg : Tg) (elt : Ow) : Sm := fun ρ g => match fi ρ g with
  | .ok ds g1 => if ds.length ≤ big then finM i ρ (compM tg elt ds (wipeD ρ own) g1) else .bad
  | _ => .bad
section
variable {X : Cx} {cls : Nat → Value} {W : WX} {pos : Pos} {a : Expr} {fa : Ex}
@[simp] def listO (f : Ex) : Ow := fun ρ g => (f ρ g).bind fun d g1 => match d with
  | .list ds => .ok (.lst ds) g1
  | .tuple ds => .ok (.lst ds) g1
  | _ => .bad
theorem po_list {p : Pos} (hm : X.mg "list" = none) (ha : PE X a (tE cls W fa)) (hg : Gl X "list" := by rfl) (hs : starEach [a] X.env = (false, eval a X.env) :: starEach [] X.env := by rfl) (hpl : (backTo pos (starEach [] X.env)).any (·.1) = false := by rfl) : PE X (.Call (.Name "list" p) [a] [] pos) (tO cls W (listO fa)) :=
  PE_imp (pe_callTy call_list_of hg hm PyProof.Rows.boot_list (pa_cons ha pa_nil hs) (by decide) (by decide) hs hpl) fun σ H Q ⟨B, S, ρ, g, I, h⟩ => by
    unfold listO at h
    refine ⟨B, S, ρ, g, I, ?_⟩
    cases ea : fa ρ g with
    | bad => rw [ea] at h; exact h
    | ex n g1 => rw [ea] at h; exact h
    | ok x g1 =>
      rw [ea] at h
      simp only [R.bind_ok] at h
      intro v H1 S1 I1 e1 r1
      cases r1 with
      | @lst b xs ds hb q =>
        refine ⟨_, _, rfl, .inl (.of (I1.sub _ _ hb)), fun l hl => ?_⟩
        obtain ⟨I2, e2⟩ := I1.allocO (o := .lst xs) hl
        exact h l _ _ _ I2 (e1.trans e2) (I1.stay hl) (none_back e1 hl) upd_same (.lst q)
      | @tup b xs ds hb q =>
        refine ⟨_, _, rfl, .inr (.of (I1.sub _ _ hb)), fun l hl => ?_⟩
        obtain ⟨I2, e2⟩ := I1.allocO (o := .lst xs) hl
        exact h l _ _ _ I2 (e1.trans e2) (I1.stay hl) (none_back e1 hl) upd_same (.lst q)
      | _ => exact False.elim h
theorem lcM_of {ts own : List Nat} {fi : Ar} {tg : Tg} {elt : Ow} {i : Nat} {Ds : Ends} (hts : ∀ i ∈ ts, i ∈ own) (σ : L2.St) (H : Hp) (h : tS cls W (lcMS i fi own tg elt) Ds σ H) :
    tLc (tI cls W fi) (tG ts tg) (tT cls W0 yesT) (tO cls W0 elt) own σ H fun x H1 => Ds.nx (σ.set i (some x)) H1 := by
  obtain ⟨B, S, ρ, g, I, h⟩ := h
  unfold lcMS at h
  refine ⟨B, S, ρ, g, I, ?_⟩
  cases ei : fi ρ g with
  | bad => rw [ei] at h; exact False.elim h
  | ex n g1 => rw [ei] at h; exact False.elim h
  | ok ds g1 =>
    rw [ei] at h
    simp only at h
    by_cases hz : ds.length ≤ big
    · rw [if_pos hz] at h
      intro J H1 S1 I1 e1 it D hD
      have nD : H D = none := none_back e1 hD
      have hDA : B.live = true → D ≠ B.A := fun hl z => I1.neA hD hl z.symm
      have xiff : ∀ {H' S' : Hp} {o : HO} {c : Addr}, Exm B (upd H' D o) S' c ↔ Exm B H' S' c := Exm.upd_iff hDA
      obtain ⟨I2, e2⟩ := I1.allocO (o := .lst []) hD
      refine ⟨fun k m H' => k + m = ds.length ∧ ∃ S' g' cs rows, Good B σ H' S' ρ g' ∧ Gr B (upd H1 D (.lst [])) S1 (upd H' D (.lst [])) S' ∧ H' D = some (.lst (cs.map V.ref)) ∧ S' D = none ∧ RowsM H1 D H' S' cs rows ∧ cs.length ≤ k ∧
        SO cls W B S Ds (finM i ρ ((compM tg elt (ds.drop k) (wipeD ρ own) g').bind fun ys g2 => .ok (rows ++ ys) g2)), ?_, ?_⟩
      · refine ⟨ds.length, by omega, S1, g1, [], [], I2, by rw [upd_upd]; exact .refl, upd_same, I1.stay hD, ⟨rfl, List.nodup_nil, (fun _ z => nomatch z), (fun k c row z => nomatch z)⟩, Nat.le_refl _, ?_⟩
        have : (compM tg elt (ds.drop 0) (wipeD ρ own) g1).bind (fun ys g2 => R.ok ([] ++ ys) g2) = compM tg elt ds (wipeD ρ own) g1 := by
          rw [List.drop_zero]
          cases compM tg elt ds (wipeD ρ own) g1 <;> rfl
        rw [this]
        exact h
      · rintro k m H' ⟨him, S', g', cs, rows, I3, e3, hv, sD, RM, hvl, h3⟩
        have e3' : Same S1 S' := e3.base
        have na : ∀ c, H1 c = none → ¬ Exm B H' S' c := fun c hc x => I1.neX hc (xiff.mp (e3.own c (xiff.mpr x)))
        have nX' : ¬ Exm B H' S' D := na D hD
        by_cases hk : k < ds.length
        · refine .inr ⟨it.go k H' hk (e3'.trans I3.sub), fun H'' => ∃ m', m' < m ∧ (k + 1 + m' = ds.length ∧ ∃ S' g' cs rows, Good B σ H'' S' ρ g' ∧ Gr B (upd H1 D (.lst [])) S1 (upd H'' D (.lst [])) S' ∧ H'' D = some (.lst (cs.map V.ref)) ∧ S' D = none ∧ RowsM H1 D H'' S' cs rows ∧ cs.length ≤ k + 1 ∧
            SO cls W B S Ds (finM i ρ ((compM tg elt (ds.drop (k + 1)) (wipeD ρ own) g').bind fun ys g2 => .ok (rows ++ ys) g2))), fun H'' z => z, fun x H4 hy => ?_⟩
          obtain ⟨d, S4, hd, gr1, rd⟩ := it.yld k H' S' x H4 hk e3' I3.sub hy
          obtain ⟨I4, e4⟩ := gr1.good I3
          have hdrop : ds.drop k = d :: ds.drop (k + 1) := by
            rw [List.drop_eq_getElem_cons hk]
            rw [List.getElem?_eq_getElem hk] at hd
            rw [Option.some.inj hd]
          rw [hdrop] at h3
          unfold compM at h3
          have step : ∀ {H5 S5 : Hp}, Gr B H' S' H5 S5 → Gr B (upd H1 D (.lst [])) S1 (upd H5 D (.lst [])) S5 := fun {H5 S5} e => by
            refine e3.trans ⟨fun a o q n => ?_, e.base, fun a q => ?_, fun a q => ?_, fun a x => xiff.mpr (e.own a (xiff.mp x))⟩
            · by_cases ha : a = D
              · subst ha; rw [upd_same] at q ⊢; exact q
              · rw [upd_ne ha] at q ⊢; exact e.keep a o q fun x => n (xiff.mpr x)
            · rcases e.new a q with z | z
              · exact .inl z
              · by_cases ha : a = D
                · subst ha; rw [hv] at z; cases z
                · exact .inr (by rw [upd_ne ha]; exact z)
            · by_cases ha : a = D
              · subst ha; rw [upd_same]; simp
              · rw [upd_ne ha] at q ⊢; exact e.there a q
          cases et : tg d (wipeD ρ own) with
          | none => simp only [et, R.bind_bad] at h3; exact False.elim h3
          | some ρ1 =>
            simp only [et] at h3
            refine ⟨_, B, S4, wipeD ρ own, g', d, ρ1, I4.wiped own, rd, et, fun σ1 I5 ch => ⟨by rw [ch.wipe hts]; exact (Chg.wipe (ts := own) ⟨by rw [wipe_length], fun j hj => wipe_out hj⟩ fun _ z => z), B, S4, ρ1, g', I5, ?_⟩⟩
            intro H6 S6 I6 e6
            have I6' := (I4.back I6 e6)
            have e46 : Gr B H' S' H6 S6 := e4.trans e6
            rw [if_pos rfl]
            refine ⟨B, S6, ρ1, g', I6, ?_⟩
            cases ee : elt ρ1 g' with
            | bad => simp only [ee, R.bind_bad] at h3; exact False.elim h3
            | ex n g6 => simp only [ee, R.bind_bad] at h3; exact False.elim h3
            | ok y g6 =>
              cases y with
              | lst row =>
                simp only [ee] at h3
                intro c o H7 S7 I7 e7 n1 n2 ho r7
                have I7' := I6'.back I7 e7
                have e77 : Gr B H' S' H7 S7 := e46.trans e7
                have hD7 := e77.keep D _ hv nX'
                have sD7 := none_of e77 (by rw [hv]; simp) sD
                have cn : ∀ x, H' x ≠ none → x ≠ c := fun x hx z => e46.there x hx (by rw [z]; exact n2)
                have cD : c ≠ D := fun z => cn D (by rw [hv]; simp) z.symm
                have c1 : H1 c = none := by
                  cases q : H1 c with
                  | none => rfl
                  | some u =>
                    have z := e3.there c (by rw [upd_ne cD, q]; simp)
                    rw [upd_ne cD] at z
                    exact absurd rfl (cn c z)
                have cc : c ∉ cs := fun z => by
                  obtain ⟨_, ws, q⟩ := RM.row z
                  exact cn c (by rw [q]; simp) rfl
                cases r7 with
                | @lst _ ws r7 =>
                  refine ⟨cs.map V.ref, hD7, by rw [List.length_map]; exact big_lt (by omega), m - 1, by omega, by omega, S7, g6, cs ++ [c], rows ++ [row], ?_, by rw [upd_upd]; exact step e77, by rw [upd_same, List.map_append]; rfl, sD7, ((RM.gr na e77).snoc cc c1 cD n1 ho r7).updD, by rw [List.length_append]; exact Nat.succ_le_succ hvl, ?_⟩
                  · refine I.updD I7' _ nD sD7 (fun a o q n => ?_) fun x => nX' (e77.own D x)
                    have ha : a ≠ D := ne_of_none q nD
                    have z := e3.keep a o (by rw [upd_ne ha]; exact e1.keep a o q n) fun x => n (e1.own _ (xiff.mp x))
                    rw [upd_ne ha] at z
                    exact e77.keep a o z fun x => n (e1.own _ (xiff.mp (e3.own _ (xiff.mpr x))))
                  · cases eR : compM tg elt (ds.drop (k + 1)) (wipeD ρ own) g6 with
                    | bad => rw [eR] at h3; exact h3
                    | ex n g7 => exact absurd eR compM_noex
                    | ok ys g7 =>
                      rw [eR] at h3
                      simp only [R.bind_ok] at h3 ⊢
                      rw [List.append_assoc]
                      exact h3
              | _ => simp only [ee, R.bind_bad] at h3; exact False.elim h3
        · have hdrop : ds.drop k = [] := List.drop_eq_nil_of_le (by omega)
          rw [hdrop] at h3
          simp only [compM, R.bind_ok, List.append_nil] at h3
          refine .inl ⟨it.stop k H' (by omega) (e3'.trans I3.sub), ?_⟩
          have keepO : ∀ a o, H a = some o → ¬ Exm B H S a → H' a = some o := fun a o q n => by
            have ha : a ≠ D := ne_of_none q nD
            have z := e3.keep a o (by rw [upd_ne ha]; exact e1.keep a o q n) fun x => n (e1.own _ (xiff.mp x))
            rw [upd_ne ha] at z
            exact z
          have J0 := I.updD I3 (D := D) (.lst []) nD sD keepO nX'
          have gr : Gr B H S (upd H' D (.lst [])) S' := e1.trans (e2.trans e3)
          refine h3 _ _ _ ?_ (e1.base.trans e3.base)
          by_cases hil : i < ρ.length
          · have K := I.setOw J0 gr (i := i) (b := .lst []) (a := D) sD nD upd_same (.lst .nil) (fun _ z => nomatch z)
            have hiσ : i < σ.length := by have := I.len; omega
            have at1 : ∀ {j : Nat}, j ≠ i → (σ.set i (some (V.ref D)))[j]? = σ[j]? := fun hj => List.getElem?_set_ne (Ne.symm hj)
            have at2 : ∀ {j : Nat}, j ≠ i → (ρ.set i (Sl.ow (.lst [])))[j]? = ρ[j]? := fun hj => List.getElem?_set_ne (Ne.symm hj)
            have q := K.mutR (i := i) (b := .lst []) (a := D) (rows' := rows) (cs' := cs) (List.getElem?_set_self hil) (List.getElem?_set_self hiσ) H' (fun x hx _ => (upd_ne hx).symm) hv RM.len RM.nd (fun z => (RM.fr D z).2 rfl)
              (fun k c row q1 q2 => (RM.at_ k c row q1 q2).2)
              (fun c hc => ⟨(RM.row hc).1, fun x => na c (RM.fr c hc).1 (xiff.mp x), by
                cases q : B.H c with
                | none => rfl
                | some u => exact absurd (RM.fr c hc).1 (I1.there c (by rw [q]; simp))⟩)
              (fun j b a' hj q1 q2 z => by
                rw [at2 hj] at q1
                rw [at1 hj] at q2
                obtain ⟨x, o, p1, p2, p3, p4, p5, p6⟩ := I1.ow j b q1
                have e := addr_of q2 p1
                subst e
                rw [(RM.fr _ z).1] at p5
                cases p5)
              (fun j rows2 a2 cs2 hj q1 q2 q3 c hc z => by
                rw [at2 hj] at q1
                rw [at1 hj] at q2
                obtain ⟨x, o, p1, p2, p3, p4, p5, p6⟩ := I.ow j _ q1
                have e := addr_of q2 p1
                subst e
                have ha : a2 ≠ D := ne_of_none p5 nD
                rw [upd_ne ha, keepO a2 o p5 p3] at q3
                rw [q3] at p5
                have w := ((I.mx j rows2 a2 cs2 q1 q2 p5).1.row (I.rowsAt q1 q2 p5) hc).2.2.2
                exact e1.there c w (RM.fr c z).1)
            rw [List.set_set] at q
            exact q
          · have s1 : ρ.set i (.ow (.mat rows)) = ρ := List.set_eq_of_length_le (by omega)
            have s2 : σ.set i (some (V.ref D)) = σ := List.set_eq_of_length_le (by have := I.len; omega)
            rw [s1, s2]
            exact I3
    · rw [if_neg hz] at h
      exact False.elim h
/-- x = [a new list for ..], x a local that gets cells -/
theorem psd_setM (i : Nat) {y : Str} {py : Pos} {elt tg iter : Expr} {scope : Scope} {own : List (Str × Nat)} {lpos : Pos} {ts : List Nat} {fi : Ar} {ft : Tg} {fe : Ow} (hc : X.calm = true) (hN : X.N.Nodup)
    (hsw : swapsWith (.ListComp elt [⟨tg, iter, [], 0⟩] scope lpos) (some (.Name y py)) pos.line X.env = pure true) (hi : PI X tg iter (tI cls W fi)) (ok : BlkOk X.N X.env.scope scope own)
    (hg : ∀ (s : Shared) (H : Hp) (C : Addr) (cl : List (Str × Addr)) (fp : List Addr), PG (X.blk s H scope (compEnvC scope cl C X.env) fp) tg (tG ts ft))
    (he : ∀ (s : Shared) (H : Hp) (C : Addr) (cl : List (Str × Addr)) (fp : List Addr), PE (X.blk s H scope (compEnvC scope cl C X.env) fp) elt (tO cls W0 fe)) (hts : ∀ i ∈ ts, i ∈ own.map (·.2) := by decide) (hy : X.N[i]? = some y := by rfl) (hyl : X.env.scope.names.lookup y = some .local := by rfl)
    (hs : ∀ x, foldedSetIterable iter X.env x = pure x := by intro _; rfl) :
    PS X (.Assign [.Name y py] (.ListComp elt [⟨tg, iter, [], 0⟩] scope lpos) pos) (tS cls W (lcMS i fi (own.map (·.2)) ft fe)) :=
  PS_imp (ps_setLc hc hN hy hyl hsw hi ok hg (fun _ _ _ _ _ => ptsd_nil (cls := cls) (W := W0)) he hs) fun D σ H h => lcM_of hts σ H h
end
end DL

set_option Elab.async false
set_option linter.all false
set_option maxRecDepth 100000
set_option maxHeartbeats 400000
/-! The data layer, part 12: comprehensions with two fors. -/
namespace DL
open PySem PySem.Spec PyProof.Rows L2
variable {cls : Nat → Value}
section
variable {B : Bs cls} {σ σ0 : L2.St} {H S : Hp} {ρ ρ0 : Nv} {g : G}
theorem upd_id {H : Hp} {a : Addr} {o : HO} (h : H a = some o) : upd H a o = H := by
  funext x
  by_cases e : x = a
  · subst e; rw [upd_same, h]
  · rw [upd_ne e]
/-- what nobody holds may be changed: the things of one's own are those of an earlier state -/
theorem Good.updE {H0 S0 : Hp} {g0 : G} (I0 : Good B σ0 H0 S0 ρ0 g0) (I : Good B σ H S ρ g) {D : Addr} (o' : HO) (nD : H0 D = none) (sD : S D = none) (keepO : ∀ a o, H0 a = some o → ¬ Exm B H0 S0 a → H a = some o) (xD : ¬ Exm B H S D)
    (same : ∀ (j : Nat) (b : Ob), ρ[j]? = some (.ow b) → ρ0[j]? = some (.ow b) ∧ σ[j]? = σ0[j]?) : Good B σ (upd H D o') S ρ g := by
  have k1' : ∀ (j : Nat) (b : Ob) (a : Addr), ρ[j]? = some (.ow b) → σ[j]? = some (some (.ref a)) → ∃ o, H0 a = some o ∧ ¬ Exm B H0 S0 a ∧ ρ0[j]? = some (.ow b) ∧ σ0[j]? = some (some (.ref a)) := fun j b a q k => by
    obtain ⟨s1, s2⟩ := same j b q
    obtain ⟨a', o2, k1, _, k3, _, k5, _⟩ := I0.ow j b s1
    rw [s2] at k
    have ea := addr_of k k1
    subst ea
    exact ⟨o2, k5, k3, s1, k1⟩
  have bk : ∀ {c : Addr}, Exm B (upd H D o') S c → Exm B H S c := fun x => x.back (Same.refl _) fun hl => upd_ne fun z => I0.neA nD hl z
  refine ⟨⟨fun a o q => ?_, fun a o q n => ?_, I.base, I.new, fun a q => ?_, I.no, ?_, fun a h x => I.own a h (bk x)⟩, I.len, I.sh, I.dw, I.sw, fun j b q => ?_, I.ap, I.mxMove (Same.refl _) (fun i b h => ⟨⟨b, h⟩, rfl⟩) (fun i rows h => h) (fun j rows a' q k => ?_) fun j rows a' cs _ q k k3 x hx => ?_⟩
  · rw [upd_ne (ne_of_none q sD)]; exact I.sub _ _ q
  · have hB : B.H D = none := by
      cases z : B.H D with
      | none => rfl
      | some u => exact absurd nD (I0.there D (by rw [z]; simp))
    rw [upd_ne (ne_of_none q hB)]; exact I.keep a o q n
  · by_cases ha : a = D
    · subst ha; rw [upd_same]; simp
    · rw [upd_ne ha]; exact I.there a q
  · exact I.dr.mono (Same.refl _) (fun c x => upd_ne fun z => xD (by rw [← z]; exact x)) fun _ _ z => z
  · obtain ⟨a, o, h1, h2, h4, h5, h6, h7⟩ := I.ow j b q
    obtain ⟨o2, k5, _⟩ := k1' j b a q h1
    have hne : a ≠ D := fun z => by rw [z, nD] at k5; cases k5
    exact ⟨a, o, h1, h2, fun x => h4 (bk x), h5, by rw [upd_ne hne]; exact h6, h7⟩
  · obtain ⟨o2, k5, _⟩ := k1' j _ a' q k
    have hne : a' ≠ D := fun z => by rw [z, nD] at k5; cases k5
    exact upd_ne hne
  · have g7 := (I.mx j rows a' cs q k k3).1.row (I.rowsAt q k k3) hx
    have hne : x ≠ D := fun z => by
      subst z
      obtain ⟨o2, l5, l3, q0, k0⟩ := k1' j _ a' q k
      have l6 := keepO a' o2 l5 l3
      rw [k3] at l6
      rw [← l6] at l5
      exact ((I0.mx j rows a' cs q0 k0 l5).1.row (I0.rowsAt q0 k0 l5) hx).2.2.2 nD
    exact ⟨upd_ne hne, g7.1, bk⟩
end
/-- a target that puts no thing of one's own anywhere -/
def ShT (ts : List Nat) (f : Tg) : Prop := ∀ d ρ ρ', f d ρ = some ρ' → ∀ (j : Nat) (b : Ob), ρ'[j]? = some (.ow b) → j ∉ ts ∧ ρ[j]? = some (.ow b)
theorem shT_name (i : Nat) : ShT [i] (nameT i) := fun d ρ ρ' h j b hb => by
  unfold nameT at h
  cases h
  by_cases hj : j = i
  · subst hj
    by_cases hl : j < ρ.length
    · rw [List.getElem?_set_self hl] at hb; cases hb
    · rw [List.getElem?_eq_none (by rw [List.length_set]; omega)] at hb; cases hb
  · rw [List.getElem?_set_ne (Ne.symm hj)] at hb
    exact ⟨fun z => hj (List.mem_singleton.mp z), hb⟩
def compD2 (tg : Tg) (cond : Te) (fi1 : Ar) (own1 : List Nat) (tg1 : Tg) (cond1 : Te) (elt : Ex) : List PyData → Nv → G → R (List PyData)
  | [], _, g => .ok [] g
  | d :: ds, ρ, g => match tg d ρ with
    | none => .bad
    | some ρ1 => match cond ρ1 g with
      | .ok true g1 => match fi1 ρ1 g1 with
        | .ok es g2 => if es.length ≤ big then (compD tg1 cond1 elt es (wipeD ρ1 own1) g2).bind fun xs g3 => (compD2 tg cond fi1 own1 tg1 cond1 elt ds ρ g3).bind fun ys g4 => .ok (xs ++ ys) g4 else .bad
        | _ => .bad
      | .ok false g1 => compD2 tg cond fi1 own1 tg1 cond1 elt ds ρ g1
      | _ => .bad
theorem compD2_noex {tg : Tg} {cond : Te} {fi1 : Ar} {own1 : List Nat} {tg1 : Tg} {cond1 : Te} {elt : Ex} : ∀ {ds : List PyData} {ρ : Nv} {g g' : G} {n : Nat}, compD2 tg cond fi1 own1 tg1 cond1 elt ds ρ g ≠ .ex n g'
  | [], ρ, g, g', n, h => by cases h
  | d :: ds, ρ, g, g', n, h => by
    unfold compD2 at h
    split at h
    · cases h
    · split at h
      · split at h
        · rename_i es g2 _
          split at h
          · cases e : compD tg1 cond1 elt es (wipeD _ own1) g2 with
            | ok a g3 =>
              rw [e] at h
              simp only [R.bind_ok] at h
              cases e2 : compD2 tg cond fi1 own1 tg1 cond1 elt ds ρ g3 with
              | ok a g4 => rw [e2] at h; cases h
              | ex n2 g4 => exact compD2_noex e2
              | bad => rw [e2] at h; cases h
            | ex n2 g3 => exact compD_noex e
            | bad => rw [e] at h; cases h
          · cases h
        · cases h
      · exact compD2_noex h
      · cases h
def fin2 : R (List PyData) → R Ob
  | .ok xs g => if xs.length ≤ big then .ok (.lst xs) g else .bad
  | _ => .bad
def lcO2 (fi : Ar) (own : List Nat) (tg : Tg) (cond : Te) (fi1 : Ar) (own1 : List Nat) (tg1 : Tg) (cond1 : Te) (elt : Ex) : Ow := fun ρ g => (fi ρ g).bind fun ds g1 => if ds.length ≤ big then fin2 (compD2 tg cond fi1 own1 tg1 cond1 elt ds (wipeD ρ own) g1) else .bad
section
variable {X : Cx} {cls : Nat → Value} {W : WX} {pos : Pos}
theorem lc2_of {ts ts1 own own1 : List Nat} {fi fi1 : Ar} {tg tg1 : Tg} {cond cond1 : Te} {elt : Ex} (hts : ∀ i ∈ ts, i ∈ own) (hts1 : ∀ i ∈ ts1, i ∈ own1) (hsh : ShT ts tg) (σ : L2.St) (H : Hp) (Q : VK) (h : tO cls W (lcO2 fi own tg cond fi1 own1 tg1 cond1 elt) σ H Q) :
    tLc2 (tI cls W fi) (tG ts tg) (tT cls W0 cond) (tI cls W0 fi1) (tG ts1 tg1) (tT cls W0 cond1) (tE cls W0 elt) own own1 σ H Q := by
  obtain ⟨B, S, ρ, g, I, h⟩ := h
  unfold lcO2 at h
  refine ⟨B, S, ρ, g, I, ?_⟩
  cases ei : fi ρ g with
  | bad => rw [ei] at h; exact h
  | ex n g1 => rw [ei] at h; exact h
  | ok ds g1 =>
    rw [ei] at h
    simp only [R.bind_ok] at h
    by_cases hz : ds.length ≤ big
    · rw [if_pos hz] at h
      intro J H1 S1 I1 e1 it D hD
      have nD : H D = none := none_back e1 hD
      have hDA : B.live = true → D ≠ B.A := fun hl z => I1.neA hD hl z.symm
      obtain ⟨I2, e2⟩ := I1.allocO (o := .lst []) hD
      have xiff : ∀ {H' S' : Hp} {o : HO} {c : Addr}, Exm B (upd H' D o) S' c ↔ Exm B H' S' c := Exm.upd_iff hDA
      have nXg : ∀ {H' S' : Hp}, Gr B (upd H1 D (.lst [])) S1 (upd H' D (.lst [])) S' → ¬ Exm B H' S' D := fun e3 x => I1.neX hD (xiff.mp (e3.own D (xiff.mpr x)))
      -- growth beside D
      have stepD : ∀ {H' S' H5 S5 : Hp} {vs : List V}, H' D = some (.lst vs) → Gr B (upd H1 D (.lst [])) S1 (upd H' D (.lst [])) S' → Gr B H' S' H5 S5 → Gr B (upd H1 D (.lst [])) S1 (upd H5 D (.lst [])) S5 := fun {H' S' H5 S5 vs} hv e3 e => by
        refine e3.trans ⟨fun a o q n => ?_, e.base, fun a q => ?_, fun a q => ?_, fun a x => xiff.mpr (e.own a (xiff.mp x))⟩
        · by_cases ha : a = D
          · subst ha; rw [upd_same] at q ⊢; exact q
          · rw [upd_ne ha] at q ⊢; exact e.keep a o q fun x => n (xiff.mpr x)
        · rcases e.new a q with z | z
          · exact .inl z
          · by_cases ha : a = D
            · subst ha; rw [hv] at z; cases z
            · exact .inr (by rw [upd_ne ha]; exact z)
        · by_cases ha : a = D
          · subst ha; rw [upd_same]; simp
          · rw [upd_ne ha] at q ⊢; exact e.there a q
      have keepO : ∀ {H' S' : Hp}, Gr B (upd H1 D (.lst [])) S1 (upd H' D (.lst [])) S' → ∀ a o, H a = some o → ¬ Exm B H S a → H' a = some o := fun {H' S'} e3 a o q n => by
        have ha : a ≠ D := ne_of_none q nD
        have z := e3.keep a o (by rw [upd_ne ha]; exact e1.keep a o q n) fun x => n (e1.own _ (xiff.mp x))
        rw [upd_ne ha] at z
        exact z
      have grO : ∀ {H' S' : Hp}, Gr B (upd H1 D (.lst [])) S1 (upd H' D (.lst [])) S' → Gr B H S (upd H' D (.lst [])) S' := fun e3 => e1.trans (e2.trans e3)
      refine ⟨fun i m H' => i + m = ds.length ∧ ∃ S' g' vs xs, Good B σ H' S' ρ g' ∧ Gr B (upd H1 D (.lst [])) S1 (upd H' D (.lst [])) S' ∧ H' D = some (.lst vs) ∧ S' D = none ∧ Rps S' vs xs ∧
        OO cls W B σ H S ρ Q (fin2 ((compD2 tg cond fi1 own1 tg1 cond1 elt (ds.drop i) (wipeD ρ own) g').bind fun ys g2 => .ok (xs ++ ys) g2)), ?_, ?_⟩
      · refine ⟨ds.length, by omega, S1, g1, [], [], I2, by rw [upd_upd]; exact .refl, upd_same, I1.stay hD, .nil, ?_⟩
        have : (compD2 tg cond fi1 own1 tg1 cond1 elt (ds.drop 0) (wipeD ρ own) g1).bind (fun ys g2 => R.ok ([] ++ ys) g2) = compD2 tg cond fi1 own1 tg1 cond1 elt ds (wipeD ρ own) g1 := by
          rw [List.drop_zero]
          cases compD2 tg cond fi1 own1 tg1 cond1 elt ds (wipeD ρ own) g1 <;> rfl
        rw [this]
        exact h
      · rintro i m H' ⟨him, S', g', vs, xs, I3, e3, hv, sD, rv, h3⟩
        have e3' : Same S1 S' := e3.base
        by_cases hi : i < ds.length
        · refine .inr ⟨it.go i H' hi (e3'.trans I3.sub), fun H'' => ∃ m', m' < m ∧ (i + 1 + m' = ds.length ∧ ∃ S' g' vs xs, Good B σ H'' S' ρ g' ∧ Gr B (upd H1 D (.lst [])) S1 (upd H'' D (.lst [])) S' ∧ H'' D = some (.lst vs) ∧ S' D = none ∧ Rps S' vs xs ∧
            OO cls W B σ H S ρ Q (fin2 ((compD2 tg cond fi1 own1 tg1 cond1 elt (ds.drop (i + 1)) (wipeD ρ own) g').bind fun ys g2 => .ok (xs ++ ys) g2))), fun H'' z => z, fun x H4 hy => ?_⟩
          obtain ⟨d, S4, hd, gr1, rd⟩ := it.yld i H' S' x H4 hi e3' I3.sub hy
          obtain ⟨I4, e4⟩ := gr1.good I3
          have hdrop : ds.drop i = d :: ds.drop (i + 1) := by
            rw [List.drop_eq_getElem_cons hi]
            rw [List.getElem?_eq_getElem hi] at hd
            rw [Option.some.inj hd]
          rw [hdrop] at h3
          unfold compD2 at h3
          cases et : tg d (wipeD ρ own) with
          | none => simp only [et, R.bind_bad, fin2] at h3; exact False.elim h3
          | some ρ1 =>
            simp only [et] at h3
            refine ⟨_, B, S4, wipeD ρ own, g', d, ρ1, I4.wiped own, rd, et, fun σ1 I5 ch => ⟨by rw [ch.wipe hts]; exact (Chg.wipe (ts := own) ⟨by rw [wipe_length], fun j hj => wipe_out hj⟩ fun _ z => z), B, S4, ρ1, g', I5, ?_⟩⟩
            -- the things of one's own behind the target are those ahead of it
            have same1 : ∀ (j : Nat) (b : Ob), ρ1[j]? = some (.ow b) → (wipeD ρ own)[j]? = some (.ow b) ∧ σ1[j]? = (wipe σ own)[j]? := fun j b q => by
              obtain ⟨q1, q2⟩ := hsh d _ _ et j b q
              exact ⟨q2, ch.out j q1⟩
            cases ec : cond ρ1 g' with
            | bad => simp only [ec, R.bind_bad, fin2] at h3; exact False.elim h3
            | ex n g5 => simp only [ec, R.bind_bad, fin2] at h3; exact False.elim h3
            | ok b g5 =>
              intro H6 S6 I6 e6
              have I6' := (I4.back I6 e6)
              have e46 : Gr B H' S' H6 S6 := e4.trans e6
              cases b with
              | false =>
                rw [if_neg Bool.false_ne_true]
                simp only [ec] at h3
                exact ⟨m - 1, by omega, by omega, S6, g5, vs, xs, I6', stepD hv e3 e46, e46.keep D _ hv (nXg e3), none_of e46 (by rw [hv]; simp) sD, rv.mono e46.base, h3⟩
              | true =>
                rw [if_pos rfl]
                simp only [ec] at h3
                refine ⟨B, S6, ρ1, g5, I6, ?_⟩
                cases ef : fi1 ρ1 g5 with
                | bad => simp only [ef, R.bind_bad, fin2] at h3; exact False.elim h3
                | ex n g6 => simp only [ef, R.bind_bad, fin2] at h3; exact False.elim h3
                | ok es g6 =>
                  simp only [ef] at h3
                  by_cases hes : es.length ≤ big
                  · rw [if_pos hes] at h3
                    intro J1 H7 S7 I7 e7 it1
                    have e47 := e46.trans e7
                    have h7D := e47.keep D _ hv (nXg e3)
                    have s7D := none_of e47 (by rw [hv]; simp) sD
                    refine ⟨fun j k H'' => j + k = es.length ∧ ∃ S'' g'' ws zs, Good B σ1 H'' S'' ρ1 g'' ∧ Gr B (upd H1 D (.lst [])) S1 (upd H'' D (.lst [])) S'' ∧ Same S7 S'' ∧ H'' D = some (.lst ws) ∧ S'' D = none ∧ Rps S'' ws zs ∧
                      OO cls W B σ H S ρ Q (fin2 ((compD tg1 cond1 elt (es.drop j) (wipeD ρ1 own1) g'').bind fun ys g3 => (compD2 tg cond fi1 own1 tg1 cond1 elt (ds.drop (i + 1)) (wipeD ρ own) g3).bind fun us g4 => .ok (zs ++ (ys ++ us)) g4)), ?_, ?_⟩
                    · refine ⟨es.length, by omega, S7, g6, vs, xs, I7, stepD hv e3 e47, Same.refl _, h7D, s7D, rv.mono e47.base, ?_⟩
                      rw [List.drop_zero]
                      have : ((compD tg1 cond1 elt es (wipeD ρ1 own1) g6).bind fun xs_1 g3 => (compD2 tg cond fi1 own1 tg1 cond1 elt (ds.drop (i + 1)) (wipeD ρ own) g3).bind fun ys g4 => R.ok (xs_1 ++ ys) g4).bind (fun ys g2 => R.ok (xs ++ ys) g2) = (compD tg1 cond1 elt es (wipeD ρ1 own1) g6).bind fun ys g3 => (compD2 tg cond fi1 own1 tg1 cond1 elt (ds.drop (i + 1)) (wipeD ρ own) g3).bind fun us g4 => R.ok (xs ++ (ys ++ us)) g4 := by
                        cases compD tg1 cond1 elt es (wipeD ρ1 own1) g6 with
                        | ok a g3 =>
                          simp only [R.bind_ok]
                          cases compD2 tg cond fi1 own1 tg1 cond1 elt (ds.drop (i + 1)) (wipeD ρ own) g3 <;> rfl
                        | ex n g3 => rfl
                        | bad => rfl
                      rw [this] at h3
                      exact h3
                    · rintro j k H'' ⟨hjk, S'', g'', ws, zs, J3, f3, s73, hw, tD, rw', h4⟩
                      by_cases hj : j < es.length
                      · refine .inr ⟨it1.go j H'' hj (s73.trans J3.sub), fun Hn => ∃ k', k' < k ∧ (j + 1 + k' = es.length ∧ ∃ S'' g'' ws zs, Good B σ1 Hn S'' ρ1 g'' ∧ Gr B (upd H1 D (.lst [])) S1 (upd Hn D (.lst [])) S'' ∧ Same S7 S'' ∧ Hn D = some (.lst ws) ∧ S'' D = none ∧ Rps S'' ws zs ∧
                          OO cls W B σ H S ρ Q (fin2 ((compD tg1 cond1 elt (es.drop (j + 1)) (wipeD ρ1 own1) g'').bind fun ys g3 => (compD2 tg cond fi1 own1 tg1 cond1 elt (ds.drop (i + 1)) (wipeD ρ own) g3).bind fun us g4 => .ok (zs ++ (ys ++ us)) g4))), fun Hn z => z, fun x1 H9 hy1 => ?_⟩
                        obtain ⟨d1, S9, hd1, gr9, rd1⟩ := it1.yld j H'' S'' x1 H9 hj s73 J3.sub hy1
                        obtain ⟨I9, e9⟩ := gr9.good J3
                        have hdrop1 : es.drop j = d1 :: es.drop (j + 1) := by
                          rw [List.drop_eq_getElem_cons hj]
                          rw [List.getElem?_eq_getElem hj] at hd1
                          rw [Option.some.inj hd1]
                        rw [hdrop1] at h4
                        unfold compD at h4
                        cases et1 : tg1 d1 (wipeD ρ1 own1) with
                        | none => simp only [et1, R.bind_bad, fin2] at h4; exact False.elim h4
                        | some ρ2 =>
                          simp only [et1] at h4
                          refine ⟨_, B, S9, wipeD ρ1 own1, g'', d1, ρ2, I9.wiped own1, rd1, et1, fun σ2 I10 ch1 => ⟨by rw [ch1.wipe hts1]; exact (Chg.wipe (ts := own1) ⟨by rw [wipe_length], fun j hj => wipe_out hj⟩ fun _ z => z), B, S9, ρ2, g'', I10, ?_⟩⟩
                          cases ec1 : cond1 ρ2 g'' with
                          | bad => simp only [ec1, R.bind_bad, fin2] at h4; exact False.elim h4
                          | ex n g5 => simp only [ec1, R.bind_bad, fin2] at h4; exact False.elim h4
                          | ok b1 g11 =>
                            intro H11 S11 I11 e11
                            have I11' := I9.back I11 e11
                            have e911 : Gr B H'' S'' H11 S11 := e9.trans e11
                            cases b1 with
                            | false =>
                              rw [if_neg Bool.false_ne_true]
                              simp only [ec1] at h4
                              exact ⟨k - 1, by omega, by omega, S11, g11, ws, zs, I11', stepD hw f3 e911, s73.trans e911.base, e911.keep D _ hw (nXg f3), none_of e911 (by rw [hw]; simp) tD, rw'.mono e911.base, h4⟩
                            | true =>
                              rw [if_pos rfl]
                              simp only [ec1] at h4
                              refine ⟨B, S11, ρ2, g11, I11, ?_⟩
                              cases ee : elt ρ2 g11 with
                              | bad => simp only [ee, R.bind_bad, fin2] at h4; exact False.elim h4
                              | ex n g6 => simp only [ee, R.bind_bad, fin2] at h4; exact False.elim h4
                              | ok y g12 =>
                                simp only [ee] at h4
                                intro v H12 S12 I12 e12 r12
                                have I12' := I11'.back I12 e12
                                have eA : Gr B H'' S'' H12 S12 := e911.trans e12
                                have hD12 := eA.keep D _ hw (nXg f3)
                                have sD12 := none_of eA (by rw [hw]; simp) tD
                                -- the rest goes well, so all is short enough
                                cases eR : compD tg1 cond1 elt (es.drop (j + 1)) (wipeD ρ1 own1) g12 with
                                | bad => rw [eR] at h4; exact False.elim h4
                                | ex n g7 => exact absurd eR compD_noex
                                | ok ys g13 =>
                                  rw [eR] at h4
                                  simp only [R.bind_ok] at h4
                                  cases eR2 : compD2 tg cond fi1 own1 tg1 cond1 elt (ds.drop (i + 1)) (wipeD ρ own) g13 with
                                  | bad => rw [eR2] at h4; exact False.elim h4
                                  | ex n g7 => exact absurd eR2 compD2_noex
                                  | ok us g14 =>
                                    rw [eR2] at h4
                                    simp only [R.bind_ok, fin2] at h4
                                    by_cases hlen : (zs ++ (y :: ys ++ us)).length ≤ big
                                    · rw [if_pos hlen] at h4
                                      have hzl : ws.length = zs.length := rw'.length.symm ▸ rfl
                                      refine ⟨ws, hD12, big_lt (by rw [List.length_append, List.length_append, List.length_cons] at hlen; omega), k - 1, by omega, by omega, S12, g12, ws ++ [v], zs ++ [y], ?_, by rw [upd_upd]; exact stepD hw f3 eA, s73.trans eA.base, upd_same, sD12, (rw'.mono eA.base).append (.cons r12 .nil), ?_⟩
                                      · exact (I.wiped own).updE I12' _ nD sD12 (fun a o q n => eA.keep a o (keepO f3 a o q n) fun x => n (e1.own _ (xiff.mp (f3.own _ (xiff.mpr x))))) (fun x => nXg f3 (eA.own D x)) same1
                                      · rw [eR]
                                        simp only [R.bind_ok]
                                        rw [eR2]
                                        simp only [R.bind_ok, fin2]
                                        have e10 : zs ++ [y] ++ (ys ++ us) = zs ++ (y :: ys ++ us) := by simp
                                        rw [e10, if_pos hlen]
                                        exact h4
                                    · rw [if_neg hlen] at h4
                                      exact False.elim h4
                      · -- the second source is at its end
                        have hdrop1 : es.drop j = [] := List.drop_eq_nil_of_le (by omega)
                        rw [hdrop1] at h4
                        simp only [compD, R.bind_ok, List.nil_append] at h4
                        refine .inl ⟨it1.stop j H'' (by omega) (s73.trans J3.sub), m - 1, by omega, by omega, S'', g'', ws, zs, ?_, f3, hw, tD, rw', h4⟩
                        have K1 := (I.wiped own).updE J3 (.lst []) nD tD (keepO f3) (nXg f3) same1
                        have K2 := I.back K1 (grO f3)
                        have K3 := I.updD K2 (.lst ws) nD tD (fun a o q n => by
                          have ha : a ≠ D := ne_of_none q nD
                          rw [upd_ne ha]
                          exact keepO f3 a o q n) fun x => nXg f3 (xiff.mp x)
                        rw [upd_upd, upd_id hw] at K3
                        exact K3
                  · rw [if_neg hes] at h3
                    simp only [R.bind_bad, fin2] at h3
                    exact False.elim h3
        · have hdrop : ds.drop i = [] := List.drop_eq_nil_of_le (by omega)
          rw [hdrop] at h3
          simp only [compD2, R.bind_ok, List.append_nil, fin2] at h3
          refine .inl ⟨it.stop i H' (by omega) (e3'.trans I3.sub), ?_⟩
          by_cases hx : xs.length ≤ big
          · rw [if_pos hx] at h3
            refine h3 D (.lst vs) H' S' I3 ?_ sD nD hv (.lst rv)
            refine e1.trans ⟨fun a o q n => ?_, e3.base, fun a q => ?_, fun a q => ?_, fun a x => xiff.mp (e3.own a (xiff.mpr x))⟩
            · have ha : a ≠ D := ne_of_none q hD
              have z := e3.keep a o (by rw [upd_ne ha]; exact q) fun x => n (xiff.mp x)
              rw [upd_ne ha] at z
              exact z
            · rcases e3.new a q with z | z
              · exact .inl z
              · by_cases ha : a = D
                · subst ha; exact .inr hD
                · rw [upd_ne ha] at z; exact .inr z
            · by_cases ha : a = D
              · subst ha; rw [hv]; simp
              · have z := e3.there a (by rw [upd_ne ha]; exact q)
                rw [upd_ne ha] at z
                exact z
          · rw [if_neg hx] at h3
            exact False.elim h3
    · rw [if_neg hz] at h
      exact False.elim h
/-- x = [.. for .. for ..], x a local -/
theorem psd_setLcO2 (i : Nat) {y : Str} {py : Pos} {elt tg iter tg1 iter1 : Expr} {ifs ifs1 : List Expr} {scope : Scope} {own : List (Str × Nat)} {lpos : Pos} {ts ts1 vs1 : List Nat} {fi fi1 : Ar} {ft ft1 : Tg} {fc fc1 : Te} {fe : Ex} (hc : X.calm = true) (hN : X.N.Nodup)
    (hsw : swapsWith (.ListComp elt [⟨tg, iter, ifs, 0⟩, ⟨tg1, iter1, ifs1, 0⟩] scope lpos) (some (.Name y py)) pos.line X.env = pure true) (hi : PI X tg iter (tI cls W fi)) (ok : BlkOk X.N X.env.scope scope own)
    (hg : ∀ (s : Shared) (H : Hp) (C : Addr) (cl : List (Str × Addr)) (fp : List Addr), PG (X.blk s H scope (compEnvC scope cl C X.env) fp) tg (tG ts ft)) (ht : ∀ (s : Shared) (H : Hp) (C : Addr) (cl : List (Str × Addr)) (fp : List Addr), PTs (X.blk s H scope (compEnvC scope cl C X.env) fp) ifs (tT cls W0 fc))
    (hi1 : ∀ (s : Shared) (H : Hp) (C : Addr) (cl : List (Str × Addr)) (fp : List Addr), PI (X.blk s H scope (compEnvC scope cl C X.env) fp) tg1 iter1 (tI cls W0 fi1))
    (hg1 : ∀ (s : Shared) (H : Hp) (C : Addr) (cl : List (Str × Addr)) (fp : List Addr), PG (X.blk s H scope (compEnvC scope cl C X.env) fp) tg1 (tG ts1 ft1)) (ht1 : ∀ (s : Shared) (H : Hp) (C : Addr) (cl : List (Str × Addr)) (fp : List Addr), PTs (X.blk s H scope (compEnvC scope cl C X.env) fp) ifs1 (tT cls W0 fc1))
    (he : ∀ (s : Shared) (H : Hp) (C : Addr) (cl : List (Str × Addr)) (fp : List Addr), PE (X.blk s H scope (compEnvC scope cl C X.env) fp) elt (tE cls W0 fe)) (hsh : ShT ts ft) (hv : ∀ i ∈ vs1, i ∈ own.map (·.2) := by decide) (hts : ∀ i ∈ ts, i ∈ own.map (·.2) := by decide) (hts1 : ∀ i ∈ ts1, i ∈ vs1 := by decide) (hy : X.N[i]? = some y := by rfl) (hyl : X.env.scope.names.lookup y = some .local := by rfl)
    (hs : ∀ x, foldedSetIterable iter X.env x = pure x := by intro _; rfl) (hs1 : ∀ env x, foldedSetIterable iter1 env x = pure x := by intro _ _; rfl) :
    PS X (.Assign [.Name y py] (.ListComp elt [⟨tg, iter, ifs, 0⟩, ⟨tg1, iter1, ifs1, 0⟩] scope lpos) pos) (tS cls W (setOS i (lcO2 fi (own.map (·.2)) ft fc fi1 vs1 ft1 fc1 fe))) :=
  PS_imp (ps_setLc2 hc hN hy hyl hsw hi ok hv hg ht hi1 hg1 ht1 he hs hs1) fun D σ H h => lc2_of hts hts1 hsh σ H _ (setOS_of h)
end
end DL

set_option Elab.async false
set_option linter.all false
set_option maxRecDepth 100000
set_option maxHeartbeats 400000
/-! The data layer, part 13: several except clauses. -/
namespace DL
open PySem PySem.Spec PyProof.Rows L2
variable {cls : Nat → Value}
def pickH (hs : List (Nat × Sm)) (m : Nat) (ρ : Nv) (g : G) : SR := match hs with
  | [] => .ex m ρ g
  | p :: r => if m = p.1 then noEx (p.2 ρ g) else pickH r m ρ g
@[simp] theorem pickH_nil (m : Nat) (ρ : Nv) (g : G) : pickH [] m ρ g = .ex m ρ g := rfl
@[simp] theorem pickH_cons (p : Nat × Sm) (r : List (Nat × Sm)) (m : Nat) (ρ : Nv) (g : G) : pickH (p :: r) m ρ g = if m = p.1 then noEx (p.2 ρ g) else pickH r m ρ g := rfl
/-- try: body / except .. / except ..; cnt classes there are -/
@[simp] def tryM (hs : List (Nat × Sm)) (cnt : Nat) (sb : Sm) : Sm := fun ρ g => match sb ρ g with
  | .ex m ρ1 g1 => if m < cnt then pickH hs m ρ1 g1 else .bad
  | r => r
section
variable {X : Cx} {cls : Nat → Value} {W : WX} {pos : Pos}
abbrev hdT (cls : Nat → Value) (p : Nat × Sm) : Value × (Addr → Value → Option Addr → TS) := (cls p.1, fun _ _ _ => tS cls W0 p.2)
structure HdsM (X : Cx) (cls : Nat → Value) (cnt : Nat) (hds : List ExceptHandler) (hs : List (Nat × Sm)) : Prop where
  ok : HdsOk X hds (hs.map (hdT cls))
  ex : ∀ p ∈ hs, ∀ m, m < cnt → PySem.W.exmOne X.K (cls m) (cls p.1) = some (decide (m = p.1))
theorem hdsM_nil {cnt : Nat} : HdsM X cls cnt [] [] := ⟨.nil, fun _ h => nomatch h⟩
theorem hdsM_cons {cnt n : Nat} {x : Str} {np pos' : Pos} {suite : List Stmt} {b₀ : Stmt} {sh : Sm} {hds : List ExceptHandler} {hs : List (Nat × Sm)} (hx : ∀ m, m < cnt → PySem.W.exmOne X.K (cls m) (cls n) = some (decide (m = n))) (hm : X.mg x = some (cls n))
    (hsu : ∀ (a : Addr) (oe : Obj) (pn : List (Addr × Obj)), PSs (X.suite a ((a, oe) :: pn)) (b₀ :: suite) (tS cls W0 sh)) (r : HdsM X cls cnt hds hs) (hg : Gl X x := by rfl) (hd : (x == ("__debug__" : Str)) = false := by decide) :
    HdsM X cls cnt (.ExceptHandler (some (.Name x np)) none (b₀ :: suite) pos' :: hds) ((n, sh) :: hs) :=
  ⟨.cons ⟨hg, hd, .inl hm⟩ (fun a oe _ _ pn _ _ => hsu a oe pn) r.ok, fun p hp => by
    rcases List.mem_cons.mp hp with z | z
    · rw [z]; exact hx
    · exact r.ex p z⟩
theorem many_of {K : PySem.W.Frag} {B : Bs cls} {D : Ends} {S S' H' : Hp} {σ' : L2.St} {ρ1 : Nv} {g1 : G} {m cnt : Nat} (hmc : m < cnt) (I' : Good B σ' H' S' ρ1 g1) (e' : Same S S') : ∀ hs : List (Nat × Sm), (∀ p ∈ hs, ∀ m, m < cnt → PySem.W.exmOne K (cls m) (cls p.1) = some (decide (m = p.1))) → SO cls W B S D (pickH hs m ρ1 g1) → wMany K W D (hs.map (hdT cls)) (cls m) none σ' H'
  | [], _, h => h σ' H' S' I' e'
  | p :: r, hx, h => by
    unfold pickH at h
    rw [List.map_cons]
    refine ⟨decide (m = p.1), hx p List.mem_cons_self m hmc, fun hb a _ => ?_, fun hb => ?_⟩
    · rw [if_pos (of_decide_eq_true hb)] at h
      refine ⟨B, S', ρ1, g1, I', ?_⟩
      have h2 := SO_gr e' h
      cases eh : p.2 ρ1 g1 with
      | nx ρ2 g2 => rw [eh] at h2; exact h2
      | rt d g2 => rw [eh] at h2; exact h2
      | bk ρ2 g2 => rw [eh] at h2; exact h2
      | ct ρ2 g2 => rw [eh] at h2; exact h2
      | bad => rw [eh] at h2; exact h2
      | ex k ρ2 g2 => rw [eh] at h2; exact False.elim h2
    · rw [if_neg (of_decide_eq_false hb)] at h
      exact many_of hmc I' e' r (fun q hq => hx q (List.mem_cons_of_mem _ hq)) h
theorem psd_tryM {cnt : Nat} {body : List Stmt} {h₀ : ExceptHandler} {hds : List ExceptHandler} {hs : List (Nat × Sm)} {sb : Sm} (hst : X.stack = X.env :: X.outer) (hf : X.env.frame = some X.env.locals) (tk : Takes X W)
    (hb : ∀ (W' : WX) (pn : List (Addr × Obj)) (xe : Value → Shared → Prop), Takes (X.tr pn xe) W' → PassesOwn (model X.prog X.w) X.A X.env xe → PSs (X.tr pn xe) body (tS cls W' sb))
    (hh : HdsM X cls cnt (h₀ :: hds) hs) : PS X (.Try body (h₀ :: hds) [] [] pos) (tS cls W (tryM hs cnt sb)) :=
  PS_imp (ps_try_many (tb := fun W' => tS cls W' sb) hst hf tk hb hh.ok) fun D σ H ⟨B, S, ρ, g, I, h⟩ => by
    unfold tryM at h
    refine ⟨B, S, ρ, g, I, ?_⟩
    cases es : sb ρ g with
    | nx ρ1 g1 => rw [es] at h; exact h
    | rt d g1 => rw [es] at h; exact h
    | bk ρ1 g1 => rw [es] at h; exact h
    | ct ρ1 g1 => rw [es] at h; exact h
    | bad => rw [es] at h; exact h
    | ex m ρ1 g1 =>
      rw [es] at h
      intro σ' H' S' I' e'
      by_cases hmc : m < cnt
      · simp only [if_pos hmc] at h
        exact many_of hmc I' e' hs hh.ex h
      · simp only [if_neg hmc] at h
        exact False.elim h
end
end DL

set_option Elab.async false
set_option linter.all false
set_option maxRecDepth 100000
set_option maxHeartbeats 400000
/-! The data layer, part 14: dicts of one's own. -/
namespace DL
open PySem PySem.Spec PyProof.Rows L2
variable {cls : Nat → Value}
def valK (kvs : List (Key × PyData)) (k : Key) : Option PyData := (kvs.find? fun kv => decide (kv.1 = k)).map (·.2)
def putD (kvs : List (Key × PyData)) (k : Key) (d : PyData) : List (Key × PyData) := if (kvs.any fun kv => decide (kv.1 = k)) = true then kvs.map (fun kv => if kv.1 = k then (kv.1, d) else kv) else kvs ++ [(k, d)]
abbrev KPr (S : Hp) : List (Key × PyData) → List (Key × V) → Prop := Paired (fun (p : Key × PyData) (q : Key × V) => p.1 = q.1 ∧ Rp S q.2 p.2)
theorem KPr.len {S : Hp} {kvs : List (Key × PyData)} {ws : List (Key × V)} (r : KPr S kvs ws) : kvs.length = ws.length := by
  induction r with
  | nil => rfl
  | cons _ _ ih => rw [List.length_cons, List.length_cons, ih]
theorem KPr.val {S : Hp} {kvs : List (Key × PyData)} {ws : List (Key × V)} (r : KPr S kvs ws) (k : Key) : (valK kvs k = none ∧ valV ws k = none) ∨ ∃ d v, valK kvs k = some d ∧ valV ws k = some v ∧ Rp S v d := by
  induction r with
  | nil => exact .inl ⟨rfl, rfl⟩
  | @cons p q ps qs h t ih =>
    by_cases e : p.1 = k
    · refine .inr ⟨p.2, q.2, ?_, ?_, h.2⟩
      · simp [valK, List.find?_cons, e]
      · exact valV_pos (by rw [← h.1]; exact e)
    · have e1 : valK (p :: ps) k = valK ps k := by simp [valK, List.find?_cons, e]
      have e2 : valV (q :: qs) k = valV qs k := valV_neg (by rw [← h.1]; exact e)
      rw [e1, e2]
      exact ih
theorem KPr.any {S : Hp} {kvs : List (Key × PyData)} {ws : List (Key × V)} (r : KPr S kvs ws) (k : Key) : (kvs.any fun kv => decide (kv.1 = k)) = ws.any fun kv => decide (kv.1 = k) := by
  induction r with
  | nil => rfl
  | @cons p q ps qs h t ih => rw [List.any_cons, List.any_cons, ih, h.1]
theorem KPr.repl {S : Hp} {kvs : List (Key × PyData)} {ws : List (Key × V)} {d : PyData} {v : V} (r : KPr S kvs ws) (k : Key) (hv : Rp S v d) : KPr S (kvs.map (fun kv => if kv.1 = k then (kv.1, d) else kv)) (ws.map (fun kv => if kv.1 = k then (kv.1, v) else kv)) := by
  induction r with
  | nil => exact .nil
  | @cons p q ps qs h t ih =>
    rw [List.map_cons, List.map_cons]
    refine .cons ?_ ih
    by_cases e : p.1 = k
    · rw [if_pos e, if_pos (by rw [← h.1]; exact e)]
      exact ⟨h.1, hv⟩
    · rw [if_neg e, if_neg (by rw [← h.1]; exact e)]
      exact h
theorem KPr.snoc {S : Hp} {kvs : List (Key × PyData)} {ws : List (Key × V)} {d : PyData} {v : V} (r : KPr S kvs ws) (k : Key) (hv : Rp S v d) : KPr S (kvs ++ [(k, d)]) (ws ++ [(k, v)]) := by
  induction r with
  | nil => exact .cons ⟨rfl, hv⟩ .nil
  | cons h t ih => exact .cons h ih
theorem KPr.put {S : Hp} {kvs : List (Key × PyData)} {ws : List (Key × V)} {d : PyData} {v : V} (r : KPr S kvs ws) (k : Key) (hv : Rp S v d) : KPr S (putD kvs k d) (putK ws k v) := by
  unfold putD putK
  rw [r.any k]
  by_cases e : (ws.any fun kv => decide (kv.1 = k)) = true
  · rw [if_pos e, if_pos e]; exact r.repl k hv
  · rw [if_neg e, if_neg e]; exact r.snoc k hv
theorem KPr.mono {S S' : Hp} (h : Same S S') {kvs : List (Key × PyData)} {ws : List (Key × V)} (r : KPr S kvs ws) : KPr S' kvs ws := Paired.mapP r fun _ _ z => ⟨z.1, z.2.mono h⟩
theorem key_rp {S : Hp} {v : V} {d : PyData} {k : Key} (r : Rp S v d) (e : keyD d = some k) : v = kV k := by
  cases r with
  | int i => cases e; rfl
  | str s => cases e; rfl
  | _ => cases e
section
variable {X : Cx} {cls : Nat → Value} {W : WX} {pos : Pos} {a b e : Expr} {fa fb fe : Ex} {D : Ends} {σ : L2.St} {H : Hp} {j : Nat}
@[simp] def dictO : Ow := fun _ g => .ok (.dk []) g
theorem po_dict : PE X (.Dict [] [] pos) (tO cls W dictO) := PE_imp pe_dnewK fun σ H Q ⟨B, S, ρ, g, I, h⟩ => by
  intro p hp
  obtain ⟨I2, e2⟩ := I.allocO (o := .dK []) hp
  exact h p _ _ _ I2 e2 (I.stay hp) hp upd_same (.dk .nil)
/-- e in x, e not in x: x a dict of one's own -/
def keyT (neg : Bool) (i : Nat) (f : Ex) : Te := fun ρ g => match f ρ g with
  | .ok d g1 => (match ρ[i]? with
    | some (.ow (.dk kvs)) => (match keyD d with
      | some k => .ok (if neg = true then !(valK kvs k).isSome else (valK kvs k).isSome) g1
      | none => .bad)
    | _ => .bad)
  | .ex n g1 => .ex n g1
  | .bad => .bad
theorem keyT_of {neg : Bool} {i : Nat} {Q : Bool → Hp → Prop} (h : tT cls W (keyT neg i fe) σ H Q) : tE cls W fe σ H fun y H1 => ∃ v, σ[i]? = some (some v) ∧ ∃ a o, v = .ref a ∧ DGet H1 a y o ∧ Q (if neg = true then !o.isSome else o.isSome) H1 := by
  obtain ⟨B, S, ρ, g, I, h⟩ := h
  unfold keyT at h
  refine ⟨B, S, ρ, g, I, ?_⟩
  cases ef : fe ρ g with
  | bad => rw [ef] at h; exact h
  | ex n g1 => rw [ef] at h; exact h
  | ok d g1 =>
    rw [ef] at h
    simp only at h
    split at h
    · rename_i kvs hi
      cases ek : keyD d with
      | none => rw [ek] at h; exact False.elim h
      | some k =>
        rw [ek] at h
        intro y H1 S1 I1 e1 r1
        obtain ⟨l, o, h1, h2, h3, h4, h5, h6⟩ := I1.ow i _ hi
        cases h6 with
        | @dk _ ws r0 =>
          have ey := key_rp r1 ek
          refine ⟨.ref l, h1, l, valV ws k, rfl, by rw [ey]; exact DGet.k h5, ?_⟩
          have hv : (valV ws k).isSome = (valK kvs k).isSome := by
            rcases KPr.val r0 k with ⟨v1, v2⟩ | ⟨d', v, v1, v2, _⟩
            · rw [v1, v2]; rfl
            · rw [v1, v2]; rfl
          rw [hv]
          exact h H1 S1 I1 e1
    · exact False.elim h
theorem ptd_keyNo (i : Nat) {x : Str} {p : Pos} (hr : Room j X.A) (hk : PE X e (tE cls W fe)) (hN : X.N[i]? = some x := by rfl) (hv : Vis X.env.scope x := by first | exact Or.inl rfl | exact Or.inr (Or.inl rfl) | exact Or.inr (Or.inr rfl)) (hd : (x == ("__debug__" : Str)) = false := by decide) (hcd : (x == ("__classdict__" : Str)) = false := by decide) (hm : behindInMarks .NotIn (.Name x p) = false := by first | exact nomark _ | rfl) :
    PT X (.Compare e [.NotIn] [.Name x p] pos) (tT cls W (keyT true i fe)) :=
  PT_imp (pt_cmp (pc_dnotin (by have := hu64 hr; omega) hk (pe_var hN hv hd hcd)) hm) fun σ H Q h => by
    have h := keyT_of h
    obtain ⟨B, S, ρ, g, I, h⟩ := h
    refine ⟨B, S, ρ, g, I, ?_⟩
    cases ef : fe ρ g with
    | bad => rw [ef] at h; exact h
    | ex n g1 => rw [ef] at h; exact h
    | ok d g1 =>
      rw [ef] at h
      intro y H1 S1 I1 e1 r1
      obtain ⟨v, h1, a, o, h2, h3, h4⟩ := h y H1 S1 I1 e1 r1
      exact ⟨v, h1, a, o, h2, h3, _, rfl, h4⟩
theorem ptd_keyIn (i : Nat) {x : Str} {p : Pos} (hr : Room j X.A) (hk : PE X e (tE cls W fe)) (hN : X.N[i]? = some x := by rfl) (hv : Vis X.env.scope x := by first | exact Or.inl rfl | exact Or.inr (Or.inl rfl) | exact Or.inr (Or.inr rfl)) (hd : (x == ("__debug__" : Str)) = false := by decide) (hcd : (x == ("__classdict__" : Str)) = false := by decide) (hm : behindInMarks .In (.Name x p) = false := by first | exact nomark _ | rfl) :
    PT X (.Compare e [.In] [.Name x p] pos) (tT cls W (keyT false i fe)) :=
  PT_imp (pt_cmp (pc_din (by have := hu64 hr; omega) hk (pe_var hN hv hd hcd)) hm) fun σ H Q h => by
    have h := keyT_of h
    obtain ⟨B, S, ρ, g, I, h⟩ := h
    refine ⟨B, S, ρ, g, I, ?_⟩
    cases ef : fe ρ g with
    | bad => rw [ef] at h; exact h
    | ex n g1 => rw [ef] at h; exact h
    | ok d g1 =>
      rw [ef] at h
      intro y H1 S1 I1 e1 r1
      obtain ⟨v, h1, a, o, h2, h3, h4⟩ := h y H1 S1 I1 e1 r1
      exact ⟨v, h1, a, o, h2, h3, _, rfl, h4⟩
/-- x[e], x a dict of one's own -/
def keyE (i : Nat) (f : Ex) : Ex := fun ρ g => match ρ[i]? with
  | some (.ow (.dk kvs)) => (f ρ g).bind fun d g1 => (match keyD d with
    | some k => ofO (valK kvs k) g1
    | none => .bad)
  | _ => .bad
theorem pd_key (i : Nat) {x : Str} {p : Pos} (hr : Room j X.A) (hk : PE X e (tE cls W fe)) (hN : X.N[i]? = some x := by rfl) (hv : Vis X.env.scope x := by first | exact Or.inl rfl | exact Or.inr (Or.inl rfl) | exact Or.inr (Or.inr rfl)) (hd : (x == ("__debug__" : Str)) = false := by decide) (hcd : (x == ("__classdict__" : Str)) = false := by decide) (hs : NoSl e := by exact fun _ _ => rfl) :
    PE X (.Subscript (.Name x p) e pos) (tE cls W (keyE i fe)) :=
  PE_imp (pe_dget (by have := hu64 hr; omega) (pe_var hN hv hd hcd) hk hs) fun σ H Q ⟨B, S, ρ, g, I, h⟩ => by
    unfold keyE at h
    split at h
    · rename_i kvs hi
      obtain ⟨l, o, h1, h2, h3, h4, h5, h6⟩ := I.ow i _ hi
      refine ⟨.ref l, h1, B, S, ρ, g, I, ?_⟩
      cases ef : fe ρ g with
      | bad => rw [ef] at h; exact h
      | ex n g1 => rw [ef] at h; exact h
      | ok d g1 =>
        rw [ef] at h
        simp only [R.bind_ok] at h
        cases ek : keyD d with
        | none => rw [ek] at h; exact False.elim h
        | some k =>
          rw [ek] at h
          simp only at h
          intro y H1 S1 I1 e1 r1
          have ey := key_rp r1 ek
          cases h6 with
          | @dk _ ws r0 =>
            have h5' := e1.keep l _ h5 h3
            have r0' : KPr S1 kvs ws := KPr.mono e1.base r0
            rcases KPr.val r0' k with ⟨v1, v2⟩ | ⟨d', v, v1, v2, v3⟩
            · rw [v1] at h; exact False.elim h
            · rw [v1] at h
              refine ⟨l, v, rfl, ?_, h v H1 S1 I1 e1 v3⟩
              rw [ey, ← v2]
              exact DGet.k h5'
    · exact False.elim h
/-- x[e] = v, x a dict of one's own -/
def keyS (i : Nat) (fk fv : Ex) : Sm := stE fv fun d ρ g => match fk ρ g with
  | .ok z g2 => (match ρ[i]?, keyD z with
    | some (.ow (.dk kvs)), some k => if kvs.length < big then .nx (ρ.set i (.ow (.dk (putD kvs k d)))) g2 else .bad
    | _, _ => .bad)
  | _ => .bad
theorem psd_key (i : Nat) {x : Str} {p pos' : Pos} (hr : Room j X.A) (hk : PE X b (tE cls W fb)) (ha : PE X a (tE cls W fa)) (hN : X.N[i]? = some x := by rfl) (hv : Vis X.env.scope x := by first | exact Or.inl rfl | exact Or.inr (Or.inl rfl) | exact Or.inr (Or.inr rfl)) (hd : (x == ("__debug__" : Str)) = false := by decide) (hcd : (x == ("__classdict__" : Str)) = false := by decide)
    (hs : swapsWith a (some (.Subscript (.Name x p) b pos')) pos.line X.env = pure false := by rfl) :
    PS X (.Assign [.Subscript (.Name x p) b pos'] a pos) (tS cls W (keyS i fb fa)) :=
  PS_imp (ps_dput (by have := hu64 hr; omega) (pe_var hN hv hd hcd) hk ha hs) fun D σ H h => st_of h fun B S ρ g d v H1 I r q => by
    cases ek : fb ρ g with
    | bad => rw [ek] at q; exact False.elim q
    | ex n g2 => rw [ek] at q; exact False.elim q
    | ok z g2 =>
      rw [ek] at q
      simp only at q
      split at q
      · rename_i kvs k hi hz
        by_cases hb : kvs.length < big
        · rw [if_pos hb] at q
          obtain ⟨l, o, h1, h2, h3, h4, h5, h6⟩ := I.ow i _ hi
          cases h6 with
          | @dk _ ws r0 =>
            refine ⟨.ref l, h1, B, S, ρ, g, I, ?_⟩
            rw [ek]
            intro y H2 S2 I2 e2 r2
            have ey := key_rp r2 hz
            have h5' := e2.keep l _ h5 h3
            have r0' : KPr S2 kvs ws := KPr.mono e2.base r0
            refine ⟨l, _, rfl, by rw [ey]; exact DPut.k h5' (by rw [← KPr.len r0]; exact big_lt hb), ?_⟩
            exact q _ _ _ (I2.mutO hi h1 (b' := .dk (putD kvs k d)) (.dk (r0'.put k (r.mono e2.base))) fun _ z => nomatch z) e2.base
        · rw [if_neg hb] at q; exact False.elim q
      · exact False.elim q
end
end DL

set_option Elab.async false
set_option linter.all false
set_option maxRecDepth 100000
set_option maxHeartbeats 400000
/-! The data layer, part 15: wide whole numbers, chains of three comparisons, two items of a list of one's own set at once, expressions that are never come to. -/
namespace DL
open PySem PySem.Spec PyProof.Rows L2
variable {cls : Nat → Value}
section
variable {X : Cx} {cls : Nat → Value} {W : WX} {pos : Pos} {a b c d : Expr} {fa fb fc fd : Ex} {k : Nat}
/-! ### wide whole numbers -/
def mulW : PyData → PyData → Option PyData
  | .int i, .int j => if i.natAbs.log2 + j.natAbs.log2 < 1000000 then some (.int (i * j)) else none
  | _, _ => none
def fdivW : PyData → PyData → Option PyData
  | .int i, .int j => if 0 < j ∧ j.natAbs.log2 < 9000 then some (.int (i / j)) else none
  | _, _ => none
theorem spec_mulW : Spec2 (rI CMulW fun i j => .int (i * j)) mulW := spec_i fun x y d e => by
  unfold mulW at e
  split at e
  · rename_i i j
    by_cases h : i.natAbs.log2 + j.natAbs.log2 < 1000000
    · rw [if_pos h] at e; cases e; exact ⟨i, j, rfl, rfl, h, rfl⟩
    · rw [if_neg h] at e; cases e
  · cases e
theorem spec_fdivW : Spec2 (rI CDivW fun i j => .int (i / j)) fdivW := spec_i fun x y d e => by
  unfold fdivW at e
  split at e
  · rename_i i j
    by_cases h : 0 < j ∧ j.natAbs.log2 < 9000
    · rw [if_pos h] at e; cases e; exact ⟨i, j, rfl, rfl, h, rfl⟩
    · rw [if_neg h] at e; cases e
  · cases e
theorem pd_mulW (ha : PE X a (tE cls W fa)) (hb : PE X b (tE cls W fb)) : PE X (.BinOp a .Mult b pos) (tE cls W (opD mulW fa fb)) := pd_bin op_mulW spec_mulW ha hb
theorem pd_fdivW (ha : PE X a (tE cls W fa)) (hb : PE X b (tE cls W fb)) : PE X (.BinOp a .FloorDiv b pos) (tE cls W (opD fdivW fa fb)) := pd_bin op_fdivW spec_fdivW ha hb
/-! ### what is never come to -/
@[simp] def badE : Ex := fun _ _ => .bad
theorem pd_never (e : Expr) : PE X e (tE cls W badE) := ⟨fun pins s σ H Q I h => by
  obtain ⟨B, S, ρ, g, _, h⟩ := h
  exact False.elim h⟩
/-! ### a op b op' c op'' d -/
def tChain3 (r r' r'' : R2) (ta tb tc td : TE) : TE := fun σ H Q => ta σ H fun x H1 => tb σ H1 fun y H2 => r x y H2 fun z H3 => ∃ k, z = .bl k ∧
  (if k = true then tc σ H3 fun w H4 => r' y w H4 fun z' H5 => ∃ k', z' = .bl k' ∧ (if k' = true then td σ H5 fun w' H6 => r'' w w' H6 Q else Q (.bl false) H5) else Q (.bl false) H3)
variable {op op' op'' : CmpOp} {o o' o'' : PyData → PyData → Option PyData}
theorem pe_chain3 {r r' r'' : R2} {ta tb tc td : TE} (ho : OpR X (compareOp op) r) (ho' : OpR X (compareOp op') r') (ho'' : OpR X (compareOp op'') r'') (ha : PE X a ta) (hb : PE X b tb) (hc : PE X c tc) (hd : PE X d td)
    (hm : lastMarks [op, op', op''] [b, c, d] = false := by with_unfolding_all rfl) : PE X (.Compare a [op, op', op''] [b, c, d] pos) (tChain3 r r' r'' ta tb tc td) := by
  refine ⟨fun pins s σ H Q I h => ?_⟩
  refine Compare_chain (thn (ha.run pins s σ H _ I h) fun v s1 ⟨x, H1, I1, r1, q1⟩ => chain_link (thn (hb.run pins s1 σ H1 _ I1 q1) fun u s2 ⟨y, H2, I2, r2, q2⟩ =>
    thn (ho pins s2 σ H2 x y v u _ I2 r1 r2 q2) fun d s3 ⟨z, H3, I3, r3, k, e, q3⟩ => ?_)) hm
  subst e
  cases r3
  refine wpAny_truthy_bool ?_
  cases k with
  | false => exact ite_ff ⟨.bl false, H3, I3, rfl, q3⟩
  | true =>
    refine ite_tt (chain_link (thn (hc.run pins s3 σ H3 _ I3 q3) fun w' s4 ⟨z', H4, I4, r4, q4⟩ => thn (ho' pins s4 σ H4 y z' u w' _ I4 r2 r4 q4) fun d' s5 ⟨z2, H5, I5, r5, k2, e2, q5⟩ => ?_))
    subst e2
    cases r5
    refine wpAny_truthy_bool ?_
    cases k2 with
    | false => exact ite_ff ⟨.bl false, H5, I5, rfl, q5⟩
    | true => exact ite_tt (chain_last (thn (hd.run pins s5 σ H5 _ I5 q5) fun w2 s6 ⟨z3, H6, I6, r6, q6⟩ => ho'' pins s6 σ H6 z' z3 w' w2 Q I6 r4 r6 q6))
@[simp] def chain3D (o o' o'' : PyData → PyData → Option PyData) (a b c d : Ex) : Ex := fun ρ g => (a ρ g).bind fun x g1 => (b ρ g1).bind fun y g2 => (ofO (o x y) g2).bind fun z g3 => match z with
  | .bool true => (c ρ g3).bind fun w g4 => (ofO (o' y w) g4).bind fun z' g5 => (match z' with
    | .bool true => (d ρ g5).bind fun w' g6 => ofO (o'' w w') g6
    | .bool false => .ok (.bool false) g5
    | _ => .bad)
  | .bool false => .ok (.bool false) g3
  | _ => .bad
theorem chain3_of {r r' r'' : R2} (s : Spec2 r o) (s' : Spec2 r' o') (s'' : Spec2 r'' o'') (σ : L2.St) (H : Hp) (Q : VK) (h : tE cls W (chain3D o o' o'' fa fb fc fd) σ H Q) : tChain3 r r' r'' (tE cls W fa) (tE cls W fb) (tE cls W fc) (tE cls W fd) σ H Q := by
  obtain ⟨B, S, ρ, g, I, h⟩ := h
  unfold chain3D at h
  refine ⟨B, S, ρ, g, I, ?_⟩
  cases ea : fa ρ g with
  | bad => rw [ea] at h; exact h
  | ex n g1 => rw [ea] at h; exact h
  | ok x g1 =>
    rw [ea] at h
    intro v H1 S1 I1 e1 r1
    refine ⟨B, S1, ρ, g1, I1, ?_⟩
    have h' := EO_gr e1 h
    simp only [R.bind_ok] at h'
    cases eb : fb ρ g1 with
    | bad => rw [eb] at h'; exact h'
    | ex n g2 => rw [eb] at h'; exact h'
    | ok y g2 =>
      rw [eb] at h'
      simp only [R.bind_ok] at h'
      intro u H2 S2 I2 e2 r2
      have h2 := EO_gr e2 h'
      cases eo : o x y with
      | none => rw [eo] at h2; exact False.elim h2
      | some d =>
        rw [eo] at h2
        simp only [ofO_some, R.bind_ok] at h2
        refine s _ B σ H2 S2 ρ g2 x y d v u _ eo I2 (r1.mono e2.base) r2 fun z H3 S3 I3 e3 r3 => ?_
        have h3 := EO_gr e3 h2
        cases r3 with
        | bl t =>
          refine ⟨t, rfl, ?_⟩
          cases t with
          | false => exact h3 _ H3 S3 I3 .refl (.bl _)
          | true =>
            refine ⟨B, S3, ρ, g2, I3, ?_⟩
            simp only at h3
            cases ec : fc ρ g2 with
            | bad => rw [ec] at h3; exact h3
            | ex n g4 => rw [ec] at h3; exact h3
            | ok w g4 =>
              rw [ec] at h3
              simp only [R.bind_ok] at h3
              intro q H4 S4 I4 e4 r4
              have h4 := EO_gr e4 h3
              cases eo' : o' y w with
              | none => rw [eo'] at h4; exact False.elim h4
              | some d' =>
                rw [eo'] at h4
                simp only [ofO_some, R.bind_ok] at h4
                refine s' _ B σ H4 S4 ρ g4 y w d' u q _ eo' I4 ((r2.mono e3.base).mono e4.base) r4 fun z' H5 S5 I5 e5 r5 => ?_
                have h5 := EO_gr e5 h4
                cases r5 with
                | bl t =>
                  refine ⟨t, rfl, ?_⟩
                  cases t with
                  | false => exact h5 _ H5 S5 I5 .refl (.bl _)
                  | true =>
                    refine ⟨B, S5, ρ, g4, I5, ?_⟩
                    simp only at h5
                    cases ed : fd ρ g4 with
                    | bad => rw [ed] at h5; exact h5
                    | ex n g6 => rw [ed] at h5; exact h5
                    | ok w' g6 =>
                      rw [ed] at h5
                      simp only [R.bind_ok] at h5
                      intro q' H6 S6 I6 e6 r6
                      have h6 := EO_gr e6 h5
                      cases eo'' : o'' w w' with
                      | none => rw [eo''] at h6; exact False.elim h6
                      | some d'' =>
                        rw [eo''] at h6
                        exact s'' _ B σ H6 S6 ρ g6 w w' d'' q q' Q eo'' I6 ((r4.mono e5.base).mono e6.base) r6 h6
                | _ => exact False.elim h5
        | _ => exact False.elim h3
theorem pd_chain3 (h : Cmp X op o) (h' : Cmp X op' o') (h'' : Cmp X op'' o'') (ha : PE X a (tE cls W fa)) (hb : PE X b (tE cls W fb)) (hc : PE X c (tE cls W fc)) (hd : PE X d (tE cls W fd)) (hm : lastMarks [op, op', op''] [b, c, d] = false := by with_unfolding_all rfl) :
    PE X (.Compare a [op, op', op''] [b, c, d] pos) (tE cls W (chain3D o o' o'' fa fb fc fd)) := by
  obtain ⟨r, h1, h2⟩ := h.ex
  obtain ⟨r', h3, h4⟩ := h'.ex
  obtain ⟨r'', h5, h6⟩ := h''.ex
  exact PE_imp (pe_chain3 h1 h3 h5 ha hb hc hd hm) (chain3_of h2 h4 h6)
/-! ### x[a], x[b] = v, w: x a list of one's own, a and b names -/
def swapS (i ia ib : Nat) (fv : Ex) : Sm := stE fv fun d ρ g => match d with
  | .tuple [d1, d2] => (match ρ[ia]? with
    | some (.sh (.int k)) => (match ρ[ib]? with
      | some (.sh (.int l)) => (match ρ[i]? with
        | some (.ow (.lst ds)) => (match L2.ixN ds.length k with
          | some m => (match L2.ixN ds.length l with
            | some n => .nx (ρ.set i (.ow (.lst ((ds.set m d1).set n d2)))) g
            | none => .bad)
          | none => .bad)
        | _ => .bad)
      | _ => .bad)
    | _ => .bad)
  | _ => .bad
theorem psd_swap (i ia ib : Nat) {x ka kb : Str} {p q pa pb s1 s2 pt : Pos} {kt : Nat} (hc : X.calm = true) (ha : PE X a (tE cls W fa)) (hN : X.N[i]? = some x := by rfl) (hNa : X.N[ia]? = some ka := by rfl) (hNb : X.N[ib]? = some kb := by rfl)
    (hv : Vis X.env.scope x := by first | exact Or.inl rfl | exact Or.inr (Or.inl rfl) | exact Or.inr (Or.inr rfl)) (hva : Vis X.env.scope ka := by first | exact Or.inl rfl | exact Or.inr (Or.inl rfl) | exact Or.inr (Or.inr rfl)) (hvb : Vis X.env.scope kb := by first | exact Or.inl rfl | exact Or.inr (Or.inl rfl) | exact Or.inr (Or.inr rfl))
    (hd : (x == ("__debug__" : Str)) = false := by decide) (hcd : (x == ("__classdict__" : Str)) = false := by decide) (hda : (ka == ("__debug__" : Str)) = false := by decide) (hcda : (ka == ("__classdict__" : Str)) = false := by decide) (hdb : (kb == ("__debug__" : Str)) = false := by decide) (hcdb : (kb == ("__classdict__" : Str)) = false := by decide)
    (h0 : ∀ v, assign (.Subscript (.Name x p) (.Name ka pa) s1) X.env v = (do
      let ov ← holding [v] (eval (.Name x p) X.env)
      let iv ← holding [v, ov] (eval (.Name ka pa) X.env)
      standAt s1
      holding [v, ov, iv] (setItem ov iv v)
      release [v, ov, iv] []) := by intro _; rfl)
    (h0' : ∀ v, assign (.Subscript (.Name x q) (.Name kb pb) s2) X.env v = (do
      let ov ← holding [v] (eval (.Name x q) X.env)
      let iv ← holding [v, ov] (eval (.Name kb pb) X.env)
      standAt s2
      holding [v, ov, iv] (setItem ov iv v)
      release [v, ov, iv] []) := by intro _; rfl)
    (g1 : (assignEach [.Subscript (.Name x p) (.Name ka pa) s1, .Subscript (.Name x q) (.Name kb pb) s2] X.env).map (·.2) = assign (.Subscript (.Name x p) (.Name ka pa) s1) X.env :: (assignEach [.Subscript (.Name x q) (.Name kb pb) s2] X.env).map (·.2) := by rfl)
    (g2 : (assignEach [.Subscript (.Name x q) (.Name kb pb) s2] X.env).map (·.2) = assign (.Subscript (.Name x q) (.Name kb pb) s2) X.env :: (assignEach [] X.env).map (·.2) := by rfl)
    (hn : (assignEach [.Subscript (.Name x p) (.Name ka pa) s1, .Subscript (.Name x q) (.Name kb pb) s2] X.env).length = 2 := by rfl) (hst : (assignEach [.Subscript (.Name x p) (.Name ka pa) s1, .Subscript (.Name x q) (.Name kb pb) s2] X.env).findIdx? (·.1) = none := by rfl)
    (hs : swapsWithSole [.Tuple [.Subscript (.Name x p) (.Name ka pa) s1, .Subscript (.Name x q) (.Name kb pb) s2] kt pt] a pos.line X.env = pure false := by rfl) (hw : swappedStores [.Tuple [.Subscript (.Name x p) (.Name ka pa) s1, .Subscript (.Name x q) (.Name kb pb) s2] kt pt] a X.env = pure none := by rfl)
    (h1 : (assignEach [.Tuple [.Subscript (.Name x p) (.Name ka pa) s1, .Subscript (.Name x q) (.Name kb pb) s2] kt pt] X.env).map (·.2) = [assign (.Tuple [.Subscript (.Name x p) (.Name ka pa) s1, .Subscript (.Name x q) (.Name kb pb) s2] kt pt) X.env] := by rfl) :
    PS X (.Assign [.Tuple [.Subscript (.Name x p) (.Name ka pa) s1, .Subscript (.Name x q) (.Name kb pb) s2] kt pt] a pos) (tS cls W (swapS i ia ib fa)) :=
  PS_imp (ps_asg ha (pg_tup hc (pgs_cons (pg_sub (pe_var hN hv hd hcd) (pe_var hNa hva hda hcda) set_list h0) (pgs_cons (pg_sub (pe_var hN hv hd hcd) (pe_var hNb hvb hdb hcdb) set_list h0') pgs_nil g2) g1) hn hst) hs hw h1) fun D σ H h => st_of h fun B S ρ g d v H1 I r z => by
    split at z
    · rename_i d1 d2
      split at z
      · rename_i k ek
        split at z
        · rename_i l el
          split at z
          · rename_i ds ei
            split at z
            · rename_i m em
              split at z
              · rename_i n en
                cases r with
                | @tup t xs _ hx qx =>
                  cases qx with
                  | @cons v1 _ vs1 _ r1 rr =>
                    cases rr with
                    | @cons v2 _ vs2 _ r2 rr2 =>
                      cases rr2
                      obtain ⟨A, ob, k1, k2, k3, k4, k5, k6⟩ := I.ow i _ ei
                      cases k6 with
                      | @lst _ vs rv =>
                        obtain ⟨w1, j1, j2⟩ := I.sh ia _ ek
                        cases j2
                        have I2 := I.mutO ei k1 (.lst (rv.set m r1)) fun _ z => nomatch z
                        have hia : ia ≠ i := fun y => by rw [y, ei] at ek; cases ek
                        have hib : ib ≠ i := fun y => by rw [y, ei] at el; cases el
                        have hil : i < ρ.length := (List.getElem?_eq_some_iff.mp ei).1
                        obtain ⟨w2, j3, j4⟩ := I.sh ib _ el
                        cases j4
                        have rv2 := rv.set m r1
                        have e2 : (ρ.set i (.ow (.lst (ds.set m d1))))[i]? = some (.ow (.lst (ds.set m d1))) := List.getElem?_set_self hil
                        have I3 := I2.mutO e2 k1 (.lst (rv2.set n r2)) fun _ z => nomatch z
                        rw [List.set_set] at I3
                        refine ⟨t, [v1, v2], rfl, .of (I.sub _ _ hx), rfl, v1, [v2], rfl, .ref A, k1, .int k, j1, A, vs, k, m, rfl, rfl, k5, by rw [rv.length]; exact em, v2, [], rfl, .ref A, k1, .int l, j3, A, vs.set m v1, l, n, rfl, rfl, upd_same, by rw [List.length_set, rv.length]; exact en, rfl, ?_⟩
                        exact z _ _ _ I3 (.refl _)
              · exact False.elim z
            · exact False.elim z
          · exact False.elim z
        · exact False.elim z
      · exact False.elim z
    · exact False.elim z
end
end DL

set_option Elab.async false
set_option linter.all false
set_option maxRecDepth 100000
set_option maxHeartbeats 400000
/-! The data layer, part 16: dicts as data (fixed from then on): items, membership, walks; a dict display; get with a default; xs.pop(). -/
namespace DL
open PySem PySem.Spec PyProof.Rows L2
variable {cls : Nat → Value}
/-- a tuple as a key -/
def nkT (y : PyData) : Option NestedKey := match y with
  | .tuple _ => (nkD y).bind fun k => if k.depth ≤ 8 ∧ y.canLay0 = true then some k else none
  | _ => none
def lookN (r : List (PyData × PyData)) (y : PyData) : Option PyData := (nkT y).bind fun k => (r.find? fun kv => decide (nkD kv.1 = some k)).map (·.2)
def hasN (r : List (PyData × PyData)) (y : PyData) : Option Bool := (nkT y).map fun k => r.any fun kv => decide (nkD kv.1 = some k)
def lookK (kvs : List (PyData × PyData)) (x : PyData) : Option PyData := (keyD x).bind fun k => (kvs.find? fun kv => decide (keyD kv.1 = some k)).map (·.2)
def hasK (kvs : List (PyData × PyData)) (x : PyData) : Option Bool := (keyD x).map fun k => kvs.any fun kv => decide (keyD kv.1 = some k)
def lookD (kvs : List (PyData × PyData)) (x : PyData) : Option PyData := match kvs with
  | (.none, _) :: r => lookN r x
  | _ => lookK kvs x
def hasD (kvs : List (PyData × PyData)) (x : PyData) : Option Bool := match kvs with
  | (.none, _) :: r => hasN r x
  | _ => hasK kvs x
theorem Rpk.look {S : Hp} {ws : List (Key × V)} {kvs : List (PyData × PyData)} (q : Rpk S ws kvs) (x : PyData) : lookD kvs x = lookK kvs x ∧ hasD kvs x = hasK kvs x := by
  cases q with
  | nil => exact ⟨rfl, rfl⟩
  | @cons k v e d ws kvs hk hv t =>
    cases e with
    | none => cases hk
    | _ => exact ⟨rfl, rfl⟩
theorem nkT_of {y : PyData} {k : NestedKey} (h : nkT y = some k) : nkD y = some k ∧ k.depth ≤ 8 ∧ y.canLay0 = true ∧ ∃ ds, y = .tuple ds := by
  unfold nkT at h
  split at h
  · rename_i ds
    obtain ⟨k', h1, h2⟩ := Option.bind_eq_some_iff.mp h
    by_cases c : k'.depth ≤ 8 ∧ (PyData.tuple ds).canLay0 = true
    · rw [if_pos c] at h2
      cases h2
      exact ⟨h1, c.1, c.2, ds, rfl⟩
    · rw [if_neg c] at h2; cases h2
  · cases h
theorem Rpn.at {S : Hp} (k : NestedKey) : ∀ {kvs : List (PyData × PyData)} {xs : List NRow}, Rpn S xs kvs → ((kvs.find? fun kv => decide (nkD kv.1 = some k)).map (·.2) = none ∧ atN xs k = none ∧ (kvs.any fun kv => decide (nkD kv.1 = some k)) = false) ∨ ∃ d v, (kvs.find? fun kv => decide (nkD kv.1 = some k)).map (·.2) = some d ∧ atN xs k = some v ∧ Rp S v d ∧ (kvs.any fun kv => decide (nkD kv.1 = some k)) = true
  | _, _, .nil => .inl ⟨rfl, rfl, rfl⟩
  | _, _, @Rpn.cons _ k' b v e d xs kvs hk hd hc hb hv t => by
    by_cases h : k' = k
    · subst h
      exact .inr ⟨d, v, by simp [List.find?_cons, hk], by simp [atN, List.find?_cons], hv, by simp [hk]⟩
    · have e1 : ((e, d) :: kvs).find? (fun kv => decide (nkD kv.1 = some k)) = kvs.find? fun kv => decide (nkD kv.1 = some k) := List.find?_cons_of_neg (by rw [hk]; simpa using h)
      have e2 : atN ((k', b, v) :: xs) k = atN xs k := by simp [atN, List.find?_cons, h]
      have e3 : (((e, d) :: kvs).any fun kv => decide (nkD kv.1 = some k)) = kvs.any fun kv => decide (nkD kv.1 = some k) := by
        rw [List.any_cons]
        have : decide (nkD e = some k) = false := decide_eq_false (by rw [hk]; simpa using h)
        simp only [this, Bool.false_or]
      rw [e1, e2, e3]
      exact Rpn.at k t
theorem Rpn.keys {K : PySem.W.Frag} {S H : Hp} (hs : Same S H) : ∀ {kvs : List (PyData × PyData)} {xs : List NRow}, Rpn S xs kvs → ∀ x ∈ xs, KeyAt K H x.1 x.2.1
  | _, _, .nil, x, h => by cases h
  | _, _, .cons hk hd hc hb hv t, x, h => by
    rcases List.mem_cons.mp h with rfl | h
    · exact ⟨_, Rp.dp hs hc hb, hk, hd⟩
    · exact Rpn.keys hs t x h
theorem Rpn.length {S : Hp} : ∀ {kvs : List (PyData × PyData)} {xs : List NRow}, Rpn S xs kvs → xs.length = kvs.length
  | _, _, .nil => rfl
  | _, _, .cons _ _ _ _ _ t => by rw [List.length_cons, List.length_cons, Rpn.length t]
theorem Rpn.get {S : Hp} : ∀ {kvs : List (PyData × PyData)} {xs : List NRow} {i : Nat} {x : NRow}, Rpn S xs kvs → xs[i]? = some x → ∃ e d, kvs[i]? = some (e, d) ∧ Rp S (.ref x.2.1) e ∧ Rp S x.2.2 d
  | _, _, _, _, .nil, h => by simp at h
  | _, _, 0, _, .cons _ _ _ hb hv _, h => by
    simp only [List.getElem?_cons_zero, Option.some.injEq] at h
    subst h
    exact ⟨_, _, by simp, hb, hv⟩
  | _, _, i + 1, _, .cons _ _ _ _ _ t, h => by
    simp only [List.getElem?_cons_succ] at h ⊢
    exact Rpn.get t h
/-- a tuple that is a key, in the heap -/
theorem key_at {K : PySem.W.Frag} {S H : Hp} (hs : Same S H) {v : V} {y : PyData} {k : NestedKey} (r : Rp S v y) (h : nkT y = some k) : ∃ b, v = .ref b ∧ KeyAt K H k b := by
  obtain ⟨h1, h2, h3, ds, rfl⟩ := nkT_of h
  cases r with
  | @tup b _ _ e q => exact ⟨b, rfl, _, Rp.dp hs h3 (.tup e q), h1, h2⟩
theorem Rpk.val {S : Hp} (k : Key) : ∀ {kvs : List (PyData × PyData)} {ws : List (Key × V)}, Rpk S ws kvs → ((kvs.find? fun kv => decide (keyD kv.1 = some k)).map (·.2) = none ∧ valV ws k = none) ∨ ∃ d v, (kvs.find? fun kv => decide (keyD kv.1 = some k)).map (·.2) = some d ∧ valV ws k = some v ∧ Rp S v d
  | _, _, .nil => .inl ⟨rfl, rfl⟩
  | _, _, @Rpk.cons _ k' v e d ws kvs hk hv t => by
    by_cases h : k' = k
    · subst h
      exact .inr ⟨d, v, by simp [List.find?_cons, hk], valV_pos rfl, hv⟩
    · have e1 : ((e, d) :: kvs).find? (fun kv => decide (keyD kv.1 = some k)) = kvs.find? fun kv => decide (keyD kv.1 = some k) := List.find?_cons_of_neg (by rw [hk]; simpa using h)
      have e2 : valV ((k', v) :: ws) k = valV ws k := valV_neg h
      rw [e1, e2]
      exact Rpk.val k t
theorem Rpk.any {S : Hp} (k : Key) : ∀ {kvs : List (PyData × PyData)} {ws : List (Key × V)}, Rpk S ws kvs → (kvs.any fun kv => decide (keyD kv.1 = some k)) = (ws.any fun kv => decide (kv.1 = k))
  | _, _, .nil => rfl
  | _, _, @Rpk.cons _ k' v e d ws kvs hk hv t => by
    rw [List.any_cons, List.any_cons, Rpk.any k t, hk]
    congr 1
    exact decide_eq_decide.mpr ⟨fun h => by injection h, fun h => congrArg some h⟩
theorem Rpk.length {S : Hp} : ∀ {kvs : List (PyData × PyData)} {ws : List (Key × V)}, Rpk S ws kvs → ws.length = kvs.length
  | _, _, .nil => rfl
  | _, _, .cons _ _ t => by rw [List.length_cons, List.length_cons, Rpk.length t]
theorem Rpk.get {S : Hp} : ∀ {kvs : List (PyData × PyData)} {ws : List (Key × V)} {i : Nat} {k : Key} {v : V}, Rpk S ws kvs → ws[i]? = some (k, v) → ∃ e d, kvs[i]? = some (e, d) ∧ keyD e = some k ∧ Rp S v d
  | _, _, i, k, v, .nil, h => by simp at h
  | _, _, 0, k, v, .cons hk hv t, h => by
    simp only [List.getElem?_cons_zero, Option.some.injEq, Prod.mk.injEq] at h
    obtain ⟨rfl, rfl⟩ := h
    exact ⟨_, _, by simp, hk, hv⟩
  | _, _, i + 1, k, v, .cons hk hv t, h => by
    simp only [List.getElem?_cons_succ] at h ⊢
    exact Rpk.get t h
theorem key_rp' {S : Hp} {v : V} {d : PyData} {k : Key} (r : Rp S v d) (e : keyD d = some k) : v = kV k := by
  cases r with
  | int i => cases e; rfl
  | str s => cases e; rfl
  | _ => cases e
theorem rp_key {S : Hp} {d : PyData} {k : Key} (e : keyD d = some k) : Rp S (kV k) d := by
  cases d with
  | int i => cases e; exact .int i
  | str s => cases e; exact .str s
  | _ => cases e
/-! items of dicts and of what ixD takes -/
def ixA : PyData → PyData → Option PyData
  | .dict kvs, y => lookD kvs y
  | x, y => ixD x y
@[simp] theorem ixA_dict (kvs : List (PyData × PyData)) (y : PyData) : ixA (.dict kvs) y = lookD kvs y := rfl
@[simp] theorem ixA_list (ds : List PyData) (y : PyData) : ixA (.list ds) y = ixD (.list ds) y := rfl
@[simp] theorem ixA_tuple (ds : List PyData) (y : PyData) : ixA (.tuple ds) y = ixD (.tuple ds) y := rfl
def inA : PyData → PyData → Option PyData
  | x, .dict kvs => (hasD kvs x).map .bool
  | x, y => inD x y
def notInA (x y : PyData) : Option PyData := match inA x y with
  | some (.bool b) => some (.bool (!b))
  | _ => none
@[simp] theorem inA_dict (kvs : List (PyData × PyData)) (x : PyData) : inA x (.dict kvs) = (hasD kvs x).map .bool := rfl
@[simp] theorem inA_list (ds : List PyData) (x : PyData) : inA x (.list ds) = inD x (.list ds) := rfl
@[simp] theorem inA_tuple (ds : List PyData) (x : PyData) : inA x (.tuple ds) = inD x (.tuple ds) := rfl
def rIxDk : R2 := fun x y H Q => ∃ a v, x = .ref a ∧ DGet H a y (some v) ∧ Q v H
theorem ix_dk {X : Cx} (hu : X.A.units + 1 < cLine) : IxR X rIxDk := by
  intro value slice pins s σ H x y v u Q I rx ry h hs
  obtain ⟨a, w, rfl, g, q⟩ := h
  cases rx
  unfold subscriptTail
  refine wpAny_bind ?_
  rw [getitemInPython_of_ne (dict_typeIs I g).not_modules]
  refine wpAny_bind (wpAny_specialOf (dict_typeIs I g) PySem.F.slot_dict_getitem.lookup ?_)
  have fin : wpAny (model X.prog X.w) X.A (subscripted slice false (.ref a) u) (fun r s₃ => wpAny (model X.prog X.w) X.A (letTemporaryGo value (.ref a) r >>= fun _ => pure r) (EP X pins σ Q) X.xe s₃) X.xe s := by
    rw [hs]
    exact wpAny_operating (d_getItem hu I g ry fun w' s' I' rw' => wpAny_bind (wpAny_letTemporaryGo (wpAny_pure ⟨w, H, I', rw', q⟩)))
  first
    | exact wpAny_pure (wpAny_bind fin)
    | exact wpAny_bind (wpAny_pure (wpAny_bind fin))
    | exact wpAny_bind fin
def rIxN (K : PySem.W.Frag) : R2 := fun x y H Q => ∃ a b xs k v, x = .ref a ∧ y = .ref b ∧ Rd H a (NdO a xs) ∧ (∀ r ∈ xs, KeyAt K H r.1 r.2.1) ∧ KeyAt K H k b ∧ atN xs k = some v ∧ Q v H
theorem nd_typeIs {X : Cx} {pins : List (Addr × Obj)} {σ : L2.St} {H : Hp} {s : Shared} {a : Addr} {xs : List NRow} (I : Inv X pins σ H s) (e : Rd H a (NdO a xs)) : s.TypeIs (.ref a) "dict" := by
  obtain ⟨_, _, _, us, w, _, o, es, ep, ho, hx, _⟩ := Inv.ndok I e
  exact ⟨o, ho, hx.1⟩
theorem ix_n {X : Cx} (hu : X.A.units + 16 < cLine) : IxR X (rIxN X.K) := by
  intro value slice pins s σ H x y v u Q I rx ry h hs
  obtain ⟨a, b, xs, k, w, rfl, rfl, e, hk, kb, hv, q⟩ := h
  cases rx
  obtain rfl : u = Value.ref b := ry
  unfold subscriptTail
  refine wpAny_bind ?_
  rw [getitemInPython_of_ne (nd_typeIs I e).not_modules]
  refine wpAny_bind (wpAny_specialOf (nd_typeIs I e) PySem.F.slot_dict_getitem.lookup ?_)
  have fin : wpAny (model X.prog X.w) X.A (subscripted slice false (.ref a) (.ref b)) (fun r s₃ => wpAny (model X.prog X.w) X.A (letTemporaryGo value (.ref a) r >>= fun _ => pure r) (EP X pins σ Q) X.xe s₃) X.xe s := by
    rw [hs]
    exact wpAny_operating (n_getItem hu I e hk kb hv fun w' s' I' rw' => wpAny_bind (wpAny_letTemporaryGo (wpAny_pure ⟨w, H, I', rw', q⟩)))
  first
    | exact wpAny_pure (wpAny_bind fin)
    | exact wpAny_bind (wpAny_pure (wpAny_bind fin))
    | exact wpAny_bind fin
abbrev ixR2 (K : PySem.W.Frag) : R2 := fun x y H Q => ixR K x y H Q ∨ rIxDk x y H Q ∨ rIxN K x y H Q
theorem spec_ixA {K : PySem.W.Frag} : Spec2 (ixR2 K) ixA := by
  intro _ B σ H S ρ g x y d v u Q e I rx ry k
  cases x with
  | dict kvs =>
    refine .inr ?_
    cases rx with
    | @dicN a o xs kvs hx qx =>
      have e : lookN kvs y = some d := e
      unfold lookN at e
      obtain ⟨kk, ek, e⟩ := Option.bind_eq_some_iff.mp e
      obtain ⟨b, rfl, kb⟩ := key_at (K := K) I.sub ry ek
      rcases Rpn.at kk qx with ⟨v1, _⟩ | ⟨d', v', v1, v2, v3, _⟩
      · rw [v1] at e; cases e
      · rw [v1] at e
        cases e
        exact .inr ⟨a, b, xs, kk, v', rfl, rfl, .inr ⟨o, I.sub _ _ hx⟩, Rpn.keys I.sub qx, kb, v2, k v' H S I .refl v3⟩
    | @dic a o ws _ hx qx =>
      refine .inl ?_
      have e : lookD kvs y = some d := e
      rw [(qx.look y).1] at e
      unfold lookK at e
      cases ek : keyD y with
      | none => rw [ek] at e; cases e
      | some kk =>
        rw [ek] at e
        simp only [Option.bind_some] at e
        have ey := key_rp' ry ek
        rcases Rpk.val kk qx with ⟨v1, v2⟩ | ⟨d', v', v1, v2, v3⟩
        · rw [v1] at e; cases e
        · rw [v1] at e
          cases e
          refine ⟨a, v', rfl, ?_, k v' H S I .refl v3⟩
          rw [ey, ← v2]
          exact .inl ⟨ws, kk, .inr ⟨o, I.sub _ _ hx⟩, rfl, rfl⟩
  | list ds => exact .inl (spec_ix _ B σ H S ρ g _ y d v u Q e I rx ry k)
  | tuple ds => exact .inl (spec_ix _ B σ H S ρ g _ y d v u Q e I rx ry k)
  | _ => cases e
section
variable {X : Cx} {cls : Nat → Value} {W : WX} {pos : Pos} {a b e : Expr} {fa fb fe : Ex} {D : Ends} {σ : L2.St} {H : Hp} {j : Nat} {st : Stmt} {rest : List Stmt}
theorem pd_ixA (hr : Room j X.A) (ha : PE X a (tE cls W fa)) (hb : PE X b (tE cls W fb)) (hs : PlainIx b := by exact fun _ _ => rfl) : PE X (.Subscript a b pos) (tE cls W (opD ixA fa fb)) := PE_imp (pe_ix (IxR.or (IxR.or ix_list ix_tup) (IxR.or (ix_dk (by have := hu64 hr; omega)) (ix_n (by have := hu64 hr; omega)))) ha hb hs) (op_of spec_ixA)
/-! membership -/
def rInDk : R2 := fun x y H Q => ∃ a o, y = .ref a ∧ DGet H a x o ∧ Q (.bl o.isSome) H
def rNotInDk : R2 := fun x y H Q => ∃ a o, y = .ref a ∧ DGet H a x o ∧ Q (.bl (!o.isSome)) H
theorem op_inDk (hu : X.A.units + 1 < cLine) : OpR X (compareOp .In) rInDk := by
  intro pins s σ H x y v u Q I rx ry h
  obtain ⟨a, o, rfl, g, q⟩ := h
  obtain rfl : u = Value.ref a := ry
  exact d_in hu I g rx fun s' I' => ⟨.bl o.isSome, H, I', rfl, q⟩
theorem op_notInDk (hu : X.A.units + 1 < cLine) : OpR X (compareOp .NotIn) rNotInDk := by
  intro pins s σ H x y v u Q I rx ry h
  obtain ⟨a, o, rfl, g, q⟩ := h
  obtain rfl : u = Value.ref a := ry
  exact d_notIn hu I g rx fun s' I' => ⟨.bl (!o.isSome), H, I', rfl, q⟩
def rInN (K : PySem.W.Frag) : R2 := fun x y H Q => ∃ a b xs k, y = .ref a ∧ x = .ref b ∧ Rd H a (NdO a xs) ∧ (∀ r ∈ xs, KeyAt K H r.1 r.2.1) ∧ KeyAt K H k b ∧ Q (.bl (atN xs k).isSome) H
def rNotInN (K : PySem.W.Frag) : R2 := fun x y H Q => ∃ a b xs k, y = .ref a ∧ x = .ref b ∧ Rd H a (NdO a xs) ∧ (∀ r ∈ xs, KeyAt K H r.1 r.2.1) ∧ KeyAt K H k b ∧ Q (.bl (!(atN xs k).isSome)) H
theorem op_inN (hu : X.A.units + 16 < cLine) : OpR X (compareOp .In) (rInN X.K) := by
  intro pins s σ H x y v u Q I rx ry h
  obtain ⟨a, b, xs, k, rfl, rfl, e, hk, kb, q⟩ := h
  obtain rfl : u = Value.ref a := ry
  obtain rfl : v = Value.ref b := rx
  exact n_in hu I e hk kb fun s' I' => ⟨.bl (atN xs k).isSome, H, I', rfl, q⟩
theorem op_notInN (hu : X.A.units + 16 < cLine) : OpR X (compareOp .NotIn) (rNotInN X.K) := by
  intro pins s σ H x y v u Q I rx ry h
  obtain ⟨a, b, xs, k, rfl, rfl, e, hk, kb, q⟩ := h
  obtain rfl : u = Value.ref a := ry
  obtain rfl : v = Value.ref b := rx
  exact n_notIn hu I e hk kb fun s' I' => ⟨.bl (!(atN xs k).isSome), H, I', rfl, q⟩
theorem in_dk {K : PySem.W.Frag} {B : Bs cls} {H S : Hp} {ρ : Nv} {g : G} {x y d : PyData} {v u : V} (I : Good B σ H S ρ g) (rx : Rp S v x) (ry : Rp S u y) {kvs : List (PyData × PyData)} (hy : y = .dict kvs) (e : (hasD kvs x).map PyData.bool = some d) :
    (∃ a o, u = .ref a ∧ DGet H a v o ∧ d = .bool o.isSome) ∨ ∃ a b xs k, u = .ref a ∧ v = .ref b ∧ Rd H a (NdO a xs) ∧ (∀ r ∈ xs, KeyAt K H r.1 r.2.1) ∧ KeyAt K H k b ∧ d = .bool (atN xs k).isSome := by
  cases ry with
  | @dicN a o xs ys hx qx =>
    cases hy
    right
    have e : (hasN ys x).map PyData.bool = some d := e
    unfold hasN at e
    cases ek : nkT x with
    | none => rw [ek] at e; cases e
    | some kk =>
      rw [ek] at e
      obtain ⟨b, rfl, kb⟩ := key_at (K := K) I.sub rx ek
      refine ⟨a, b, xs, kk, rfl, rfl, .inr ⟨o, I.sub _ _ hx⟩, Rpn.keys I.sub qx, kb, ?_⟩
      have e : d = .bool (ys.any fun kv => decide (nkD kv.1 = some kk)) := (Option.some.inj e).symm
      rcases Rpn.at kk qx with ⟨_, v2, v3⟩ | ⟨d', v', _, v2, _, v3⟩
      · rw [v2, e, v3]; rfl
      · rw [v2, e, v3]; rfl
  | @dic a o ws _ hx qx =>
    cases hy
    left
    rw [(qx.look x).2] at e
    unfold hasK at e
    cases ek : keyD x with
    | none => rw [ek] at e; cases e
    | some kk =>
      rw [ek] at e
      have ex := key_rp' rx ek
      refine ⟨a, valV ws kk, rfl, ?_, ?_⟩
      · rw [ex]
        exact .inl ⟨ws, kk, .inr ⟨o, I.sub _ _ hx⟩, rfl, rfl⟩
      · rw [← valV_any, ← Rpk.any kk qx]
        exact (Option.some.inj e).symm
  | _ => cases hy
theorem spec_inA {K : PySem.W.Frag} : Spec2 (fun x y H Q => rInC K x y H Q ∨ rInDk x y H Q ∨ rInN K x y H Q) inA := by
  intro _ B σ H S ρ g x y d v u Q e I rx ry k
  cases y with
  | dict kvs =>
    rcases in_dk (K := K) I rx ry rfl e with ⟨a, o, h1, h2, rfl⟩ | ⟨a, b, xs, kk, h1, h2, h3, h4, h5, rfl⟩
    · exact .inr (.inl ⟨a, o, h1, h2, k _ H S I .refl (.bl _)⟩)
    · exact .inr (.inr ⟨a, b, xs, kk, h1, h2, h3, h4, h5, k _ H S I .refl (.bl _)⟩)
  | list ds => exact .inl (spec_in _ B σ H S ρ g x (.list ds) d v u Q e I rx ry k)
  | tuple ds => exact .inl (spec_in _ B σ H S ρ g x (.tuple ds) d v u Q e I rx ry k)
  | none => exact .inl (spec_in _ B σ H S ρ g x .none d v u Q e I rx ry k)
  | bool z => exact .inl (spec_in _ B σ H S ρ g x (.bool z) d v u Q e I rx ry k)
  | int z => exact .inl (spec_in _ B σ H S ρ g x (.int z) d v u Q e I rx ry k)
  | str z => exact .inl (spec_in _ B σ H S ρ g x (.str z) d v u Q e I rx ry k)
theorem notIn_other {x y : PyData} (h : inA x y = inD x y) : notInA x y = notInD x y := by
  unfold notInA notInD
  rw [h]
  all_goals
    cases inD x y with
    | none => rfl
    | some z => cases z <;> rfl
theorem spec_notInA {K : PySem.W.Frag} : Spec2 (fun x y H Q => rNotInC K x y H Q ∨ rNotInDk x y H Q ∨ rNotInN K x y H Q) notInA := by
  intro _ B σ H S ρ g x y d v u Q e I rx ry k
  cases y with
  | dict kvs =>
    unfold notInA at e
    rw [inA_dict] at e
    cases hh : (hasD kvs x).map PyData.bool with
    | none => rw [hh] at e; cases e
    | some z =>
      rw [hh] at e
      rcases in_dk (K := K) I rx ry rfl hh with ⟨a, o, h1, h2, rfl⟩ | ⟨a, b, xs, kk, h1, h2, h3, h4, h5, rfl⟩
      · cases e
        exact .inr (.inl ⟨a, o, h1, h2, k _ H S I .refl (.bl _)⟩)
      · cases e
        exact .inr (.inr ⟨a, b, xs, kk, h1, h2, h3, h4, h5, k _ H S I .refl (.bl _)⟩)
  | list ds => exact .inl (spec_notIn _ B σ H S ρ g x _ d v u Q (by rw [← notIn_other rfl]; exact e) I rx ry k)
  | tuple ds => exact .inl (spec_notIn _ B σ H S ρ g x _ d v u Q (by rw [← notIn_other rfl]; exact e) I rx ry k)
  | none => exact .inl (spec_notIn _ B σ H S ρ g x _ d v u Q (by rw [← notIn_other rfl]; exact e) I rx ry k)
  | bool _ => exact .inl (spec_notIn _ B σ H S ρ g x _ d v u Q (by rw [← notIn_other rfl]; exact e) I rx ry k)
  | int _ => exact .inl (spec_notIn _ B σ H S ρ g x _ d v u Q (by rw [← notIn_other rfl]; exact e) I rx ry k)
  | str _ => exact .inl (spec_notIn _ B σ H S ρ g x _ d v u Q (by rw [← notIn_other rfl]; exact e) I rx ry k)
theorem c_inA (hr : Room j X.A) : Cmp X .In inA := ⟨_, OpR.or (op_inC (hu65 hr)) (OpR.or (op_inDk (by have := hu64 hr; omega)) (op_inN (by have := hu64 hr; omega))), spec_inA⟩
theorem c_notInA (hr : Room j X.A) : Cmp X .NotIn notInA := ⟨_, OpR.or (op_notInC (hu65 hr)) (OpR.or (op_notInDk (by have := hu64 hr; omega)) (op_notInN (by have := hu64 hr; omega))), spec_notInA⟩
/-! walks over keys -/
def keysA (kvs : List (PyData × PyData)) : List PyData := match kvs with
  | (.none, _) :: r => r.map (·.1)
  | _ => kvs.map (·.1)
def iKeysN (td : TE) : TI := fun σ H R => td σ H fun x H1 => (∃ d o, x = .ref d ∧ ((∃ kvs, H1 d = some (.frz o (.dK kvs)) ∧ R (Itk d o kvs) H1) ∨ ∃ kvs, H1 d = some (.frz o (.dT kvs)) ∧ R (Itkt d o kvs) H1)) ∨ ∃ d o xs, x = .ref d ∧ H1 d = some (.frz o (NdO d xs)) ∧ R (Itn d o xs) H1
theorem pi_keysN {X : Cx} {tg e : Expr} {td : TE} (he : PE X e td) : PI X tg e (iKeysN td) := by
  refine ⟨fun pins s σ H R I h => ?_⟩
  refine thn (he.run pins s σ H _ I h) fun u s1 ⟨x, H1, I1, rx, q⟩ => ?_
  rcases q with ⟨d, o, ex, q⟩ | ⟨d, o, xs, ex, hd, q⟩
  · subst ex
    obtain rfl : u = Value.ref d := rx
    rcases q with ⟨kvs, hd, q⟩ | ⟨kvs, hd, q⟩
    · obtain ⟨hs, hgd, hx, es, ep, vs, hdt, hsz, kv, hm⟩ := I1.frzK hd
      refine iter_keys hs hgd hx hdt (pi_one (tk := s1.toks) I1 _ (turn_keys _ hdt) ⟨_, Heap.get?_push_size _ rfl, rfl, ?_⟩ q)
      rw [hsz] <;> rfl
    · obtain ⟨hs, hgd, hx, es, ep, hdt, hsz, ent⟩ := I1.frzT hd
      refine iter_keys hs hgd hx hdt (pi_one (tk := s1.toks) I1 _ (turn_keysT _ hdt) ⟨_, Heap.get?_push_size _ rfl, rfl, ?_⟩ q)
      rw [hsz] <;> rfl
  · subst ex
    obtain rfl : u = Value.ref d := rx
    obtain ⟨hs, hgd, hx, es, ep, hdt, hsz, ent⟩ := Inv.frzN I1 hd
    refine iter_keys hs hgd hx hdt (pi_one (tk := s1.toks) I1 _ (turn_keysN _ hdt) ⟨_, Heap.get?_push_size _ rfl, rfl, ?_⟩ q)
    rw [hsz] <;> rfl
@[simp] def itemsA (f : Ex) : Ar := fun ρ g => (f ρ g).bind fun d g1 => match d with
  | .list ds => .ok ds g1
  | .tuple ds => .ok ds g1
  | .dict kvs => .ok (keysA kvs) g1
  | _ => .bad
theorem Rpk.keysA {S : Hp} {ws : List (Key × V)} {kvs : List (PyData × PyData)} (q : Rpk S ws kvs) : DL.keysA kvs = kvs.map (·.1) := by
  cases q with
  | nil => rfl
  | @cons k v e d ws kvs hk hv t =>
    cases e with
    | none => cases hk
    | _ => rfl
theorem it_nd {S : Hp} {p : Addr} {o : Obj} {xs : List NRow} {kvs : List (PyData × PyData)} (hx : S p = some (.frz o (NdO p xs))) (q : Rpn S xs kvs) : ItOk (Itn p o xs) S (kvs.map (·.1)) := by
  refine ⟨fun i H hi hs => ⟨hs _ _ hx, by rw [List.length_map] at hi; rw [Rpn.length q]; exact hi⟩, fun i H hi hs => ⟨hs _ _ hx, by rw [List.length_map] at hi; rw [Rpn.length q]; exact hi⟩, fun i H S' x H' hi h1 h2 hy => ?_⟩
  obtain ⟨rfl, y, hk, rfl⟩ := hy
  obtain ⟨e, d, he, hke, _⟩ := Rpn.get q hk
  exact ⟨e, S', by rw [List.getElem?_map, he]; rfl, .same, hke.mono h1⟩
theorem it_dict {S : Hp} {p : Addr} {o : Obj} {ws : List (Key × V)} {kvs : List (PyData × PyData)} (hx : S p = some (.frz o (.dK ws))) (q : Rpk S ws kvs) : ItOk (Itk p o ws) S (kvs.map (·.1)) := by
  refine ⟨fun i H hi hs => ⟨hs _ _ hx, by rw [List.length_map] at hi; rw [Rpk.length q]; exact hi⟩, fun i H hi hs => ⟨hs _ _ hx, by rw [List.length_map] at hi; rw [Rpk.length q]; exact hi⟩, fun i H S' x H' hi h1 h2 hy => ?_⟩
  obtain ⟨rfl, k, v, hk, rfl⟩ := hy
  obtain ⟨e, d, he, hke, _⟩ := Rpk.get q hk
  exact ⟨e, S', by rw [List.getElem?_map, he]; rfl, .same, rp_key hke⟩
theorem pid_seqA {tg : Expr} (ha : PE X a (tE cls W fa)) : PI X tg a (tI cls W (itemsA fa)) := by
  refine ⟨fun pins s σ H Q I0 h => ?_⟩
  obtain ⟨B, S, ρ, g, I, h⟩ := h
  unfold itemsA at h
  have other : (∀ d g1, fa ρ g = .ok d g1 → (∃ ds, d = .list ds) ∨ ∃ ds, d = .tuple ds) → wpAny (model X.prog X.w) X.A _ _ _ s := fun hd => (pid_seq (tg := tg) ha).run pins s σ H Q I0 ⟨B, S, ρ, g, I, by
    unfold itemsD
    cases ea : fa ρ g with
    | bad => rw [ea] at h; exact h
    | ex n g1 => rw [ea] at h; exact h
    | ok x g1 =>
      rw [ea] at h
      rcases hd x g1 ea with ⟨ds, rfl⟩ | ⟨ds, rfl⟩
      · exact h
      · exact h⟩
  cases ea : fa ρ g with
  | bad => rw [ea] at h; exact False.elim h
  | ex n g1 => exact other fun d g1' e => by rw [ea] at e; cases e
  | ok x g1 =>
    cases x with
    | list ds => exact other fun d g1' e => by rw [ea] at e; cases e; exact .inl ⟨ds, rfl⟩
    | tuple ds => exact other fun d g1' e => by rw [ea] at e; cases e; exact .inr ⟨ds, rfl⟩
    | dict kvs =>
      rw [ea] at h
      simp only [R.bind_ok] at h
      refine (pi_keysN ha).run pins s σ H Q I0 ⟨B, S, ρ, g, I, ?_⟩
      rw [ea]
      intro v H1 S1 I1 e1 r1
      cases r1 with
      | @dicN p o xs kvs hx qx => exact .inr ⟨p, o, xs, rfl, I1.sub _ _ hx, h _ H1 S1 I1 e1 (it_nd hx qx)⟩
      | @dic p o ws _ hx qx =>
        rw [qx.keysA] at h
        exact .inl ⟨p, o, rfl, .inl ⟨ws, I1.sub _ _ hx, h _ H1 S1 I1 e1 (it_dict hx qx)⟩⟩
    | _ => rw [ea] at h; exact False.elim h
/-! an own dict is fixed -/
def frzS (i : Nat) (s : Sm) : Sm := fun ρ g => match ρ[i]? with
  | some (.ow (.dk kvs)) => s (ρ.set i (.sh (dictD kvs))) g
  | _ => .bad
theorem pssd_frz (i : Nat) {s : Sm} (h : PSs X rest (tS cls W s)) : PSs X rest (tS cls W (frzS i s)) := by
  refine ⟨fun pins s0 σ H D J hw => ?_⟩
  obtain ⟨B, S, ρ, g, I, hw⟩ := hw
  unfold frzS at hw
  split at hw
  · rename_i kvs hi
    obtain ⟨a, o, h1, h2, h3, h4, h5, h6⟩ := I.ow i _ hi
    cases h6 with
    | @dk _ ws r =>
      obtain ⟨od, J1⟩ := J.lock h5 True.intro
      have I1 := I.mutO hi h1 (b' := .fz kvs) (o' := .frz od (.dK ws)) (.fz r) fun _ z => nomatch z
      have hl : i < ρ.length := (List.getElem?_eq_some_iff.mp hi).1
      obtain ⟨S', sm, I2⟩ := I1.shutB (d := dictD kvs) (List.getElem?_set_self hl) rfl
      rw [List.set_set] at I2
      exact h.run pins s0 σ _ D J1 ⟨B, S', _, g, I2, SO_gr sm hw⟩
  · exact False.elim hw
/-- a new dict becomes a datum at once -/
def shareKE (f : Ow) : Ex := fun ρ g => (f ρ g).bind fun b g1 => match b with
  | .dk kvs => .ok (dictD kvs) g1
  | _ => .bad
theorem pd_shareK {f : Ow} (h : PE X e (tO cls W f)) : PE X e (tE cls W (shareKE f)) := by
  refine ⟨fun pins s σ H Q J hw => ?_⟩
  obtain ⟨B, S, ρ, g, I, hw⟩ := hw
  refine thn (h.run pins s σ H (fun x H1 => ∃ a ws, x = .ref a ∧ H1 a = some (.dK ws) ∧ ∀ od, Q (.ref a) (upd H1 a (.frz od (.dK ws)))) J ⟨B, S, ρ, g, I, ?_⟩) fun u s1 ⟨x, H1, J1, rx, a, ws, ex, ha, q⟩ => ?_
  · unfold shareKE at hw
    cases ef : f ρ g with
    | bad => rw [ef] at hw; exact hw
    | ex n g1 => rw [ef] at hw; exact hw
    | ok b g1 =>
      rw [ef] at hw
      simp only [R.bind_ok] at hw
      intro a o H1 S1 I1 e1 n1 n2 ho hb
      cases hb with
      | @dk kvs ws r =>
        refine ⟨a, ws, rfl, ho, fun od => ?_⟩
        obtain ⟨I2, e2⟩ := I.swapNew I1 e1 (.frz od (.dK ws)) n1 n2
        obtain ⟨I3, e3⟩ := I.share I2 e2 n1 n2 upd_same
        exact hw _ _ _ I3 e3 (.dic upd_same (rpk_of (Paired.mapP r fun _ _ z => ⟨z.1, z.2.mono fun c u q => by rw [upd_ne (ne_of_none q n1)]; exact q⟩)))
      | _ => exact False.elim hw
  · obtain ⟨od, J2⟩ := J1.lock ha True.intro
    subst ex
    exact ⟨.ref a, _, J2, rx, q od⟩
/-- {k: v} -/
def disp1 (fk fv : Ex) : Ow := fun ρ g => (fk ρ g).bind fun x g1 => (fv ρ g1).bind fun y g2 => match keyD x with
  | some k => .ok (.dk [(k, y)]) g2
  | none => .bad
theorem po_disp1 {k v : Expr} {fk fv : Ex} (hk : PE X k (tE cls W fk)) (hv : PE X v (tE cls W fv)) : PE X (.Dict [some k] [v] pos) (tO cls W (disp1 fk fv)) :=
  PE_imp (pe_disp (pps_cons hk hv pps_nil) rfl rfl (fun z => nomatch z) (by show 1 ≤ 15; decide)) fun σ H Q ⟨B, S, ρ, g, I, h⟩ => by
    intro p hp
    unfold disp1 at h
    obtain ⟨I0, e0⟩ := I.allocO (o := .dK []) hp
    refine ⟨B, S, ρ, g, I0, ?_⟩
    cases ek : fk ρ g with
    | bad => rw [ek] at h; exact h
    | ex n g1 => rw [ek] at h; exact fun H' S' I' e' => h H' S' I' (e0.trans e')
    | ok x g1 =>
      rw [ek] at h
      simp only [R.bind_ok] at h
      intro vx H1 S1 I1 e1 r1
      refine ⟨B, S1, ρ, g1, I1, ?_⟩
      cases ev : fv ρ g1 with
      | bad => rw [ev] at h; exact h
      | ex n g2 => rw [ev] at h; exact fun H' S' I' e' => h H' S' I' ((e0.trans e1).trans e')
      | ok y g2 =>
        rw [ev] at h
        simp only [R.bind_ok] at h
        intro vy H2 S2 I2 e2 r2
        cases ekk : keyD x with
        | none => rw [ekk] at h; exact False.elim h
        | some kk =>
          rw [ekk] at h
          simp only at h
          have e12 := e1.trans e2
          have h2p : H2 p = some (.dK []) := e12.keep p _ upd_same (I.neX' (Same.refl _) hp)
          have s0p : S p = none := I.stay hp
          have s2p : S2 p = none := none_of e12 (by rw [upd_same]; simp) s0p
          have ex := key_rp' r1 ekk
          refine ⟨h2p, [(kk, vy)], by rw [ex]; rfl, by show 1 ≤ 15; decide, ?_⟩
          have e02 : Gr B H S H2 S2 := e0.trans e12
          obtain ⟨I3, e3⟩ := I.swapNew I2 e02 (.dK [(kk, vy)]) s2p hp
          exact h p (.dK [(kk, vy)]) _ _ I3 e3 s2p hp upd_same (.dk (.cons ⟨rfl, r2⟩ .nil))
end
end DL

set_option Elab.async false
set_option linter.all false
set_option maxRecDepth 100000
set_option maxHeartbeats 400000
/-! The data layer, part 17: x.get(e, d) of a dict of one's own; xs.pop() of a list of one's own. -/
namespace DL
open PySem PySem.Spec PyProof.Rows L2
variable {cls : Nat → Value}
section
variable {X : Cx} {cls : Nat → Value} {W : WX} {pos : Pos} {a b e f : Expr} {fa fb fe ff : Ex} {D : Ends} {σ : L2.St} {H : Hp} {j : Nat} {st : Stmt} {rest : List Stmt}
/-- x.get(e, d) -/
def keyG (i : Nat) (fk fd : Ex) : Ex := fun ρ g => match ρ[i]? with
  | some (.ow (.dk kvs)) => (fk ρ g).bind fun x g1 => (fd ρ g1).bind fun d g2 => (match keyD x with
    | some k => .ok ((valK kvs k).getD d) g2
    | none => .bad)
  | _ => .bad
theorem pd_keyG (i : Nat) {x : Str} {p apos cpos : Pos} (hr : Room j X.A) (he : PE X e (tE cls W fe)) (hf : PE X f (tE cls W ff)) (hN : X.N[i]? = some x := by rfl) (hv : Vis X.env.scope x := by first | exact Or.inl rfl | exact Or.inr (Or.inl rfl) | exact Or.inr (Or.inr rfl)) (hd : (x == ("__debug__" : Str)) = false := by decide) (hcd : (x == ("__classdict__" : Str)) = false := by decide)
    (m : M2 X (.Name x p) "get" apos e f cpos := by exact ⟨by rfl, by rfl, by rfl, by rfl⟩) :
    PE X (.Call (.Attribute (.Name x p) "get" apos) [e, f] [] cpos) (tE cls W (keyG i fe ff)) :=
  PE_imp (pe_dget2 (by have := hu64 hr; omega) (pe_var hN hv hd hcd) he hf m) fun σ H Q ⟨B, S, ρ, g, I, h⟩ => by
    unfold keyG at h
    split at h
    · rename_i kvs hi
      obtain ⟨l, o, h1, h2, h3, h4, h5, h6⟩ := I.ow i _ hi
      cases h6 with
      | @dk _ ws r0 =>
        refine ⟨.ref l, h1, l, rfl, .inl ⟨ws, .inl h5⟩, B, S, ρ, g, I, ?_⟩
        cases ek : fe ρ g with
        | bad => rw [ek] at h; exact h
        | ex n g1 => rw [ek] at h; exact h
        | ok x g1 =>
          rw [ek] at h
          simp only [R.bind_ok] at h
          intro y H1 S1 I1 e1 r1
          refine ⟨B, S1, ρ, g1, I1, ?_⟩
          cases ef : ff ρ g1 with
          | bad => rw [ef] at h; exact h
          | ex n g2 => rw [ef] at h; exact fun H' S' I' e' => h H' S' I' (e1.trans e')
          | ok d g2 =>
            rw [ef] at h
            simp only [R.bind_ok] at h
            intro z H2 S2 I2 e2 r2
            cases ekk : keyD x with
            | none => rw [ekk] at h; exact False.elim h
            | some k =>
              rw [ekk] at h
              simp only at h
              have ey := key_rp r1 ekk
              have e12 := e1.trans e2
              have r0' : KPr S2 kvs ws := KPr.mono e12.base r0
              refine ⟨valV ws k, by rw [ey]; exact DGet.k (e12.keep l _ h5 h3), ?_⟩
              rcases KPr.val r0' k with ⟨v1, v2⟩ | ⟨d', v, v1, v2, v3⟩
              · rw [v1] at h
                rw [v2]
                exact h z H2 S2 I2 e12 r2
              · rw [v1] at h
                rw [v2]
                exact h v H2 S2 I2 e12 v3
    · exact False.elim h
/-- xs.pop(), what comes of it let go -/
def popS (i : Nat) : Sm := fun ρ g => match ρ[i]? with
  | some (.ow (.lst ds)) => if ds = [] then .bad else .nx (ρ.set i (.ow (.lst ds.dropLast))) g
  | _ => .bad
theorem Rps.dropLast {S : Hp} {ds : List PyData} {vs : List V} (r : Rps S vs ds) : Rps S vs.dropLast ds.dropLast := by
  rw [List.dropLast_eq_take, List.dropLast_eq_take, r.length]
  exact r.take _
theorem psd_pop (i : Nat) {x : Str} {p apos cpos : Pos} (hN : X.N[i]? = some x := by rfl) (hv : Vis X.env.scope x := by first | exact Or.inl rfl | exact Or.inr (Or.inl rfl) | exact Or.inr (Or.inr rfl)) (hd : (x == ("__debug__" : Str)) = false := by decide) (hcd : (x == ("__classdict__" : Str)) = false := by decide)
    (hb : attributeBase (.Name x p) "pop" X.env (eval (.Name x p) X.env) = eval (.Name x p) X.env := by rfl) (hl : (apos.endLine == cpos.line) = true := by rfl)
    (hsw : swapsWith (.Call (.Attribute (.Name x p) "pop" apos) [] [] cpos) none pos.line X.env = pure false := by rfl) :
    PS X (.Expr (.Call (.Attribute (.Name x p) "pop" apos) [] [] cpos) pos) (tS cls W (popS i)) :=
  PS_imp (ps_expr (pe_bm0 PySem.F.plainAttrs_list PySem.F.slot_list_pop PySem.F.type_list_pop mt_pop (pe_var hN hv hd hcd) hb hl) hsw) fun D σ H ⟨B, S, ρ, g, I, h⟩ => by
    unfold popS at h
    split at h
    · rename_i ds hi
      by_cases h0 : ds = []
      · rw [if_pos h0] at h; exact False.elim h
      · rw [if_neg h0] at h
        obtain ⟨l, o, h1, h2, h3, h4, h5, h6⟩ := I.ow i _ hi
        cases h6 with
        | @lst _ vs r =>
          have hpos : 0 < vs.length := by rw [r.length]; exact List.length_pos_iff.mpr h0
          refine ⟨.ref l, h1, .inl ⟨rfl, vs, .of h5⟩, l, vs, vs[vs.length - 1], rfl, rfl, h5, List.getElem?_eq_getElem (by omega), ?_⟩
          exact h _ _ _ (I.mutO hi h1 (.lst r.dropLast) fun _ z => nomatch z) (Same.refl _)
    · exact False.elim h
end
end DL

set_option Elab.async false
set_option linter.all false
set_option maxRecDepth 100000
set_option maxHeartbeats 400000
/-! The data layer, part 18: range(a, b, c). -/
namespace DL
open PySem PySem.Spec PyProof.Rows L2
variable {cls : Nat → Value}
section
variable {X : Cx} {cls : Nat → Value} {W : WX} {pos : Pos} {a b c tg : Expr} {fa fb fc : Ex}
def stepsC (lo c : Int) (n : Nat) : List PyData := (List.range n).map fun (k : Nat) => PyData.int (lo + (k : Int) * c)
theorem it_rngC (S : Hp) (lo c : Int) (n : Nat) : ItOk (Itc lo c n) S (stepsC lo c n) := by
  have hl : (stepsC lo c n).length = n := by unfold stepsC; rw [List.length_map, List.length_range]
  refine ⟨fun i H hi _ => by rw [hl] at hi; exact hi, fun i H hi _ => by rw [hl] at hi; exact hi, fun i H S' x H' hi h1 h2 hy => ?_⟩
  obtain ⟨rfl, rfl⟩ := hy
  rw [hl] at hi
  refine ⟨.int (lo + (i : Int) * c), S', ?_, .same, .int _⟩
  unfold stepsC
  rw [List.getElem?_map, List.getElem?_range hi]
  rfl
def range3D (f f2 f3 : Ex) : Ar := fun ρ g => (f ρ g).bind fun d g1 => (f2 ρ g1).bind fun e g2 => (f3 ρ g2).bind fun h g3 => match d, e, h with
  | .int i, .int j, .int c => if c ≠ 0 ∧ c.natAbs < 1073741824 ∧ Builtin.Range.small i j c = true ∧ 0 ≤ Builtin.Range.rangeSize i j c then .ok (stepsC i c (Builtin.Range.rangeSize i j c).toNat) g3 else .bad
  | _, _, _ => .bad
theorem pid_range3 {p : Pos} (hm : X.mg "range" = none) (ha : PE X a (tE cls W fa)) (hb : PE X b (tE cls W fb)) (hc : PE X c (tE cls W fc)) (hg : Gl X "range" := by rfl)
    (hs : starEach [a, b, c] X.env = (false, eval a X.env) :: starEach [b, c] X.env := by rfl) (hs2 : starEach [b, c] X.env = (false, eval b X.env) :: starEach [c] X.env := by rfl) (hs3 : starEach [c] X.env = (false, eval c X.env) :: starEach [] X.env := by rfl) (hpl : (backTo pos (starEach [b, c] X.env)).any (·.1) = false := by rfl) :
    PI X tg (.Call (.Name "range" p) [a, b, c] [] pos) (tI cls W (range3D fa fb fc)) := by
  refine ⟨fun pins s σ H Q I0 h => (pi_range3 hg hm (pa_cons ha (pa_cons hb (pa_cons hc pa_nil hs3) hs2) hs) hs hpl).run pins s σ H Q I0 ?_⟩
  obtain ⟨B, S, ρ, g, I, h⟩ := h
  unfold range3D at h
  refine ⟨B, S, ρ, g, I, ?_⟩
  cases ea : fa ρ g with
  | bad => rw [ea] at h; exact False.elim h
  | ex n g1 => rw [ea] at h; exact h
  | ok x g1 =>
    rw [ea] at h
    simp only [R.bind_ok] at h
    intro v H1 S1 I1 e1 r1
    refine ⟨B, S1, ρ, g1, I1, ?_⟩
    cases eb : fb ρ g1 with
    | bad => rw [eb] at h; exact False.elim h
    | ex n g2 =>
      rw [eb] at h
      exact fun H' S' I' e' => h H' S' I' (e1.trans e')
    | ok y g2 =>
      rw [eb] at h
      simp only [R.bind_ok] at h
      intro u H2 S2 I2 e2 r2
      refine ⟨B, S2, ρ, g2, I2, ?_⟩
      cases ec : fc ρ g2 with
      | bad => rw [ec] at h; exact False.elim h
      | ex n g3 =>
        rw [ec] at h
        exact fun H' S' I' e' => h H' S' I' ((e1.trans e2).trans e')
      | ok z g3 =>
        rw [ec] at h
        simp only [R.bind_ok] at h
        intro w H3 S3 I3 e3 r3
        cases r1 with
        | int i =>
          cases r2 with
          | int j =>
            cases r3 with
            | int k =>
              simp only at h
              by_cases hn : k ≠ 0 ∧ k.natAbs < 1073741824 ∧ Builtin.Range.small i j k = true ∧ 0 ≤ Builtin.Range.rangeSize i j k
              · rw [if_pos hn] at h
                exact ⟨i, j, k, _, rfl, ⟨hn.1, hn.2.1, hn.2.2.1, (Int.toNat_of_nonneg hn.2.2.2).symm⟩, h _ H3 S3 I3 ((e1.trans e2).trans e3) (it_rngC S3 i k _)⟩
              · rw [if_neg hn] at h
                exact False.elim h
            | _ => exact False.elim h
          | _ => exact False.elim h
        | _ => exact False.elim h
end
end DL

set_option Elab.async false
set_option linter.all false
set_option maxRecDepth 100000
set_option maxHeartbeats 400000
/-! The data layer, part 19: x[e], x[f] = v: x a list of one's own, e and f expressions. -/
namespace DL
open PySem PySem.Spec PyProof.Rows L2
variable {cls : Nat → Value}
section
variable {X : Cx} {cls : Nat → Value} {W : WX} {pos : Pos} {a b c : Expr} {fa fb fc : Ex} {B : Bs cls} {σ : L2.St} {H : Hp} {S : Hp} {ρ : Nv} {g : G}
/-- one item set -/
def setAt (i : Nat) (fk : Ex) (d : PyData) : Sm := fun ρ g => match fk ρ g with
  | .ok (.int k) g2 => (match ρ[i]? with
    | some (.ow (.lst ds)) => (match L2.ixN ds.length k with
      | some j => .nx (ρ.set i (.ow (.lst (ds.set j d)))) g2
      | none => .bad)
    | _ => .bad)
  | _ => .bad
def swapE (i : Nat) (fk fl fv : Ex) : Sm := stE fv fun d ρ g => match d with
  | .tuple [d1, d2] => (match setAt i fk d1 ρ g with
    | .nx ρ1 g1 => setAt i fl d2 ρ1 g1
    | _ => .bad)
  | _ => .bad

theorem setAt_nx {i : Nat} {fk : Ex} {d : PyData} {ρ1 : Nv} {g1 : G} (h : setAt i fk d ρ g = .nx ρ1 g1) : ∃ k ds j, fk ρ g = .ok (.int k) g1 ∧ ρ[i]? = some (.ow (.lst ds)) ∧ L2.ixN ds.length k = some j ∧ ρ1 = ρ.set i (.ow (.lst (ds.set j d))) := by
  unfold setAt at h
  split at h
  · rename_i k g2 ek
    split at h
    · rename_i ds ei
      split at h
      · rename_i j ej
        injection h with h1 h2
        subst h2
        exact ⟨k, ds, j, ek, ei, ej, h1.symm⟩
      · cases h
    · cases h
  · cases h
theorem setAt_no {i : Nat} {fk : Ex} {d : PyData} (D : Ends) (h : SO cls W B S D (setAt i fk d ρ g)) : ∃ ρ1 g1, setAt i fk d ρ g = .nx ρ1 g1 := by
  cases e : setAt i fk d ρ g with
  | nx ρ1 g1 => exact ⟨ρ1, g1, rfl⟩
  | bad => rw [e] at h; exact False.elim h
  | rt d' g1 =>
    unfold setAt at e
    split at e
    · split at e
      · split at e <;> cases e
      · cases e
    · cases e
  | ex n r g1 =>
    unfold setAt at e
    split at e
    · split at e
      · split at e <;> cases e
      · cases e
    · cases e
  | bk r g1 =>
    unfold setAt at e
    split at e
    · split at e
      · split at e <;> cases e
      · cases e
    · cases e
  | ct r g1 =>
    unfold setAt at e
    split at e
    · split at e
      · split at e <;> cases e
      · cases e
    · cases e

theorem psd_swapE (i : Nat) {x : Str} {p q s1 s2 pt : Pos} {kt : Nat} {ek el : Expr} {fk fl : Ex} (hc : X.calm = true) (ha : PE X a (tE cls W fa)) (hk : PE X ek (tE cls W fk)) (hl : PE X el (tE cls W fl)) (hN : X.N[i]? = some x := by rfl)
    (hv : Vis X.env.scope x := by first | exact Or.inl rfl | exact Or.inr (Or.inl rfl) | exact Or.inr (Or.inr rfl)) (hd : (x == ("__debug__" : Str)) = false := by decide) (hcd : (x == ("__classdict__" : Str)) = false := by decide)
    (h0 : ∀ v, assign (.Subscript (.Name x p) ek s1) X.env v = (do
      let ov ← holding [v] (eval (.Name x p) X.env)
      let iv ← holding [v, ov] (eval ek X.env)
      standAt s1
      holding [v, ov, iv] (setItem ov iv v)
      release [v, ov, iv] []) := by intro _; rfl)
    (h0' : ∀ v, assign (.Subscript (.Name x q) el s2) X.env v = (do
      let ov ← holding [v] (eval (.Name x q) X.env)
      let iv ← holding [v, ov] (eval el X.env)
      standAt s2
      holding [v, ov, iv] (setItem ov iv v)
      release [v, ov, iv] []) := by intro _; rfl)
    (g1 : (assignEach [.Subscript (.Name x p) ek s1, .Subscript (.Name x q) el s2] X.env).map (·.2) = assign (.Subscript (.Name x p) ek s1) X.env :: (assignEach [.Subscript (.Name x q) el s2] X.env).map (·.2) := by rfl)
    (g2 : (assignEach [.Subscript (.Name x q) el s2] X.env).map (·.2) = assign (.Subscript (.Name x q) el s2) X.env :: (assignEach [] X.env).map (·.2) := by rfl)
    (hn : (assignEach [.Subscript (.Name x p) ek s1, .Subscript (.Name x q) el s2] X.env).length = 2 := by rfl) (hst : (assignEach [.Subscript (.Name x p) ek s1, .Subscript (.Name x q) el s2] X.env).findIdx? (·.1) = none := by rfl)
    (hs : swapsWithSole [.Tuple [.Subscript (.Name x p) ek s1, .Subscript (.Name x q) el s2] kt pt] a pos.line X.env = pure false := by rfl) (hw : swappedStores [.Tuple [.Subscript (.Name x p) ek s1, .Subscript (.Name x q) el s2] kt pt] a X.env = pure none := by rfl)
    (h1 : (assignEach [.Tuple [.Subscript (.Name x p) ek s1, .Subscript (.Name x q) el s2] kt pt] X.env).map (·.2) = [assign (.Tuple [.Subscript (.Name x p) ek s1, .Subscript (.Name x q) el s2] kt pt) X.env] := by rfl) :
    PS X (.Assign [.Tuple [.Subscript (.Name x p) ek s1, .Subscript (.Name x q) el s2] kt pt] a pos) (tS cls W (swapE i fk fl fa)) :=
  PS_imp (ps_asg ha (pg_tup hc (pgs_cons (pg_sub (pe_var hN hv hd hcd) hk set_list h0) (pgs_cons (pg_sub (pe_var hN hv hd hcd) hl set_list h0') pgs_nil g2) g1) hn hst) hs hw h1) fun D σ H h => st_of h fun B S ρ g d v H1 I r z => by
    split at z
    · rename_i d1 d2
      split at z
      · rename_i ρ1 g1 e1
        obtain ⟨ρ2, g2, e2⟩ := setAt_no D z
        rw [e2] at z
        obtain ⟨k, ds, m, ek1, ei, em, rfl⟩ := setAt_nx e1
        obtain ⟨l, ds', n, el1, ei', en, rfl⟩ := setAt_nx e2
        cases r with
        | @tup t xs _ hx qx =>
          cases qx with
          | @cons v1 _ vs1 _ r1 rr =>
            cases rr with
            | @cons v2 _ vs2 _ r2 rr2 =>
              cases rr2
              obtain ⟨A, ob, k1, k2, k3, k4, k5, k6⟩ := I.ow i _ ei
              cases k6 with
              | @lst _ vs rv =>
                refine ⟨t, [v1, v2], rfl, .of (I.sub _ _ hx), rfl, v1, [v2], rfl, .ref A, k1, B, S, ρ, g, I, ?_⟩
                rw [ek1]
                intro iv H2 S2 I2 x2 q2
                cases q2 with
                | int _ =>
                  have k5' := x2.keep A _ k5 k3
                  have I3 := I2.mutO ei k1 (.lst ((rv.mono x2.base).set m (r1.mono x2.base))) fun _ z => nomatch z
                  refine ⟨A, vs, k, m, rfl, rfl, k5', by rw [rv.length]; exact em, v2, [], rfl, .ref A, k1, B, S2, _, g1, I3, ?_⟩
                  rw [el1]
                  intro iv2 H4 S4 I4 x4 q4
                  cases q4 with
                  | int _ =>
                    obtain ⟨A', ob', j1, j2, j3, j4, j5, j6⟩ := I4.ow i _ ei'
                    have ea := addr_of j1 k1
                    subst ea
                    cases j6 with
                    | @lst _ vs4 rv4 =>
                      refine ⟨_, vs4, l, n, rfl, rfl, j5, by rw [rv4.length]; exact en, rfl, ?_⟩
                      exact z _ _ _ (I4.mutO ei' j1 (.lst (rv4.set n ((r2.mono x2.base).mono x4.base))) fun _ z => nomatch z) (x2.base.trans x4.base)
      · exact False.elim z
    · exact False.elim z
end
end DL

set_option Elab.async false
set_option linter.all false
set_option maxRecDepth 100000
set_option maxHeartbeats 400000
/-! The data layer, part 20: a + b of lists as a list of one's own. -/
namespace DL
open PySem PySem.Spec PyProof.Rows L2
variable {cls : Nat → Value}
section
variable {X : Cx} {cls : Nat → Value} {W : WX} {pos : Pos} {a b : Expr} {fa fb : Ex}
def addO (fa fb : Ex) : Ow := fun ρ g => (fa ρ g).bind fun x g1 => (fb ρ g1).bind fun y g2 => match x, y with
  | .list ds, .list es => if ds.length + es.length ≤ big then .ok (.lst (ds ++ es)) g2 else .bad
  | _, _ => .bad

theorem po_addL (ha : PE X a (tE cls W fa)) (hb : PE X b (tE cls W fb)) : PE X (.BinOp a .Add b pos) (tO cls W (addO fa fb)) :=
  PE_imp (pe_op op_addA ha hb) fun σ H Q ⟨B, S, ρ, g, I, h⟩ => by
    unfold addO at h
    refine ⟨B, S, ρ, g, I, ?_⟩
    cases ea : fa ρ g with
    | bad => rw [ea] at h; exact h
    | ex n g1 => rw [ea] at h; exact h
    | ok x g1 =>
      rw [ea] at h
      simp only [R.bind_ok] at h
      intro v H1 S1 I1 e1 r1
      refine ⟨B, S1, ρ, g1, I1, ?_⟩
      cases eb : fb ρ g1 with
      | bad => rw [eb] at h; exact h
      | ex n g2 =>
        rw [eb] at h
        exact fun H' S' I' e' => h H' S' I' (e1.trans e')
      | ok y g2 =>
        rw [eb] at h
        simp only [R.bind_ok] at h
        intro u H2 S2 I2 e2 r2
        have r1 := r1.mono e2.base
        cases r1 with
        | @lst p xs ds hx qx =>
          cases r2 with
          | @lst q ys es hy qy =>
            by_cases hl : ds.length + es.length ≤ big
            · simp only [if_pos hl] at h
              refine .inr (.inr ⟨p, q, xs, ys, rfl, rfl, I2.sub _ _ hx, I2.sub _ _ hy, big_line (by rw [qx.length, qy.length]; exact hl), fun l hp => ?_⟩)
              obtain ⟨I3, e3⟩ := I2.allocO (o := .lst (xs ++ ys)) hp
              exact h l _ _ _ I3 ((e1.trans e2).trans e3) (I2.stay hp) (none_back (e1.trans e2) hp) upd_same (.lst (qx.append qy))
            · simp only [if_neg hl] at h
              exact False.elim h
          | _ => exact False.elim h
        | _ => exact False.elim h
end
end DL

set_option Elab.async false
set_option linter.all false
set_option maxRecDepth 100000
set_option maxHeartbeats 400000
/-! The data layer, part 21: dict comprehensions. -/
namespace DL
open PySem PySem.Spec PyProof.Rows L2
variable {cls : Nat → Value}
def compK (tg : Tg) (cond : Te) (fk fv : Ex) : List PyData → List (Key × PyData) → Nv → G → R (List (Key × PyData))
  | [], kvs, _, g => .ok kvs g
  | d :: ds, kvs, ρ, g => match tg d ρ with
    | none => .bad
    | some ρ1 => match cond ρ1 g with
      | .ok true g1 => (match fk ρ1 g1 with
        | .ok x g2 => (match fv ρ1 g2 with
          | .ok y g3 => (match keyD x with
            | some k => compK tg cond fk fv ds (putD kvs k y) ρ g3
            | none => .bad)
          | _ => .bad)
        | _ => .bad)
      | .ok false g1 => compK tg cond fk fv ds kvs ρ g1
      | _ => .bad
def dcO (fi : Ar) (own : List Nat) (tg : Tg) (cond : Te) (fk fv : Ex) : Ow := fun ρ g => (fi ρ g).bind fun ds g1 => if ds.length ≤ big then (compK tg cond fk fv ds [] (wipeD ρ own) g1).bind fun kvs g2 => .ok (.dk kvs) g2 else .bad
section
variable {X : Cx} {cls : Nat → Value} {W : WX} {pos : Pos}
theorem dc_of {ts own : List Nat} {fi : Ar} {tg : Tg} {cond : Te} {fk fv : Ex} (hts : ∀ i ∈ ts, i ∈ own) (σ : L2.St) (H : Hp) (Q : VK) (h : tO cls W (dcO fi own tg cond fk fv) σ H Q) :
    tDc (tI cls W fi) (tG ts tg) (tT cls W0 cond) (tE cls W0 fk) (tE cls W0 fv) own σ H Q := by
  obtain ⟨B, S, ρ, g, I, h⟩ := h
  unfold dcO at h
  refine ⟨B, S, ρ, g, I, ?_⟩
  cases ei : fi ρ g with
  | bad => rw [ei] at h; exact h
  | ex n g1 => rw [ei] at h; exact h
  | ok ds g1 =>
    rw [ei] at h
    simp only [R.bind_ok] at h
    by_cases hz : ds.length ≤ big
    · rw [if_pos hz] at h
      intro J H1 S1 I1 e1 it D hD
      have nD : H D = none := none_back e1 hD
      have hDA : B.live = true → D ≠ B.A := fun hl z => I1.neA hD hl z.symm
      have xiff : ∀ {H' S' : Hp} {o : HO} {c : Addr}, Exm B (upd H' D o) S' c ↔ Exm B H' S' c := Exm.upd_iff hDA
      obtain ⟨I2, e2⟩ := I1.allocO (o := .dK []) hD
      refine ⟨fun i m H' => i + m = ds.length ∧ ∃ S' g' ws kvs, Good B σ H' S' ρ g' ∧ Gr B (upd H1 D (.dK [])) S1 (upd H' D (.dK [])) S' ∧ H' D = some (.dK ws) ∧ S' D = none ∧ KPr S' kvs ws ∧ ws.length ≤ i ∧
        OO cls W B σ H S ρ Q ((compK tg cond fk fv (ds.drop i) kvs (wipeD ρ own) g').bind fun kvs' g2 => .ok (.dk kvs') g2), ?_, ?_⟩
      · exact ⟨ds.length, by omega, S1, g1, [], [], I2, by rw [upd_upd]; exact .refl, upd_same, I1.stay hD, .nil, Nat.le_refl _, h⟩
      · rintro i m H' ⟨him, S', g', ws, kvs, I3, e3, hv, sD, rv, hvl, h3⟩
        have e3' : Same S1 S' := e3.base
        by_cases hi : i < ds.length
        · refine .inr ⟨it.go i H' hi (e3'.trans I3.sub), fun H'' => ∃ m', m' < m ∧ (i + 1 + m' = ds.length ∧ ∃ S' g' ws kvs, Good B σ H'' S' ρ g' ∧ Gr B (upd H1 D (.dK [])) S1 (upd H'' D (.dK [])) S' ∧ H'' D = some (.dK ws) ∧ S' D = none ∧ KPr S' kvs ws ∧ ws.length ≤ i + 1 ∧
            OO cls W B σ H S ρ Q ((compK tg cond fk fv (ds.drop (i + 1)) kvs (wipeD ρ own) g').bind fun kvs' g2 => .ok (.dk kvs') g2)), fun H'' z => z, fun x H4 hy => ?_⟩
          obtain ⟨d, S4, hd, gr1, rd⟩ := it.yld i H' S' x H4 hi e3' I3.sub hy
          obtain ⟨I4, e4⟩ := gr1.good I3
          have hdrop : ds.drop i = d :: ds.drop (i + 1) := by
            rw [List.drop_eq_getElem_cons hi]
            rw [List.getElem?_eq_getElem hi] at hd
            rw [Option.some.inj hd]
          rw [hdrop] at h3
          unfold compK at h3
          have nX' : ¬ Exm B H' S' D := fun x => I1.neX hD (xiff.mp (e3.own D (xiff.mpr x)))
          have step : ∀ {H5 S5 : Hp}, Gr B H' S' H5 S5 → Gr B (upd H1 D (.dK [])) S1 (upd H5 D (.dK [])) S5 := fun {H5 S5} e => by
            refine e3.trans ⟨fun a o q n => ?_, e.base, fun a q => ?_, fun a q => ?_, fun a x => xiff.mpr (e.own a (xiff.mp x))⟩
            · by_cases ha : a = D
              · subst ha; rw [upd_same] at q ⊢; exact q
              · rw [upd_ne ha] at q ⊢; exact e.keep a o q fun x => n (xiff.mpr x)
            · rcases e.new a q with z | z
              · exact .inl z
              · by_cases ha : a = D
                · subst ha; rw [hv] at z; cases z
                · exact .inr (by rw [upd_ne ha]; exact z)
            · by_cases ha : a = D
              · subst ha; rw [upd_same]; simp
              · rw [upd_ne ha] at q ⊢; exact e.there a q
          cases et : tg d (wipeD ρ own) with
          | none => simp only [et, R.bind_bad] at h3; exact False.elim h3
          | some ρ1 =>
            simp only [et] at h3
            refine ⟨_, B, S4, wipeD ρ own, g', d, ρ1, I4.wiped own, rd, et, fun σ1 I5 ch => ⟨by rw [ch.wipe hts]; exact (Chg.wipe (ts := own) ⟨by rw [wipe_length], fun j hj => wipe_out hj⟩ fun _ z => z), B, S4, ρ1, g', I5, ?_⟩⟩
            cases ec : cond ρ1 g' with
            | bad => simp only [ec, R.bind_bad] at h3; exact False.elim h3
            | ex n g5 => simp only [ec, R.bind_bad] at h3; exact False.elim h3
            | ok b g5 =>
              intro H6 S6 I6 e6
              have I6' := (I4.back I6 e6)
              have e46 : Gr B H' S' H6 S6 := e4.trans e6
              cases b with
              | false =>
                rw [if_neg Bool.false_ne_true]
                simp only [ec] at h3
                exact ⟨m - 1, by omega, by omega, S6, g5, ws, kvs, I6', step e46, e46.keep D _ hv nX', none_of e46 (by rw [hv]; simp) sD, rv.mono e46.base, by omega, h3⟩
              | true =>
                rw [if_pos rfl]
                simp only [ec] at h3
                refine ⟨B, S6, ρ1, g5, I6, ?_⟩
                cases ek : fk ρ1 g5 with
                | bad => simp only [ek, R.bind_bad] at h3; exact False.elim h3
                | ex n g6 => simp only [ek, R.bind_bad] at h3; exact False.elim h3
                | ok kx g6 =>
                  simp only [ek] at h3
                  intro vx H7a S7a I7a e7a r7a
                  refine ⟨B, S7a, ρ1, g6, I7a, ?_⟩
                  cases ee : fv ρ1 g6 with
                  | bad => simp only [ee, R.bind_bad] at h3; exact False.elim h3
                  | ex n g7 => simp only [ee, R.bind_bad] at h3; exact False.elim h3
                  | ok y g7 =>
                    simp only [ee] at h3
                    intro v H7 S7 I7 e7 r7
                    cases ekk : keyD kx with
                    | none => simp only [ekk, R.bind_bad] at h3; exact False.elim h3
                    | some kk =>
                      simp only [ekk] at h3
                      have I7' := (I6'.back I7a e7a).back I7 e7
                      have e77 : Gr B H' S' H7 S7 := (e46.trans e7a).trans e7
                      have hD7 := e77.keep D _ hv nX'
                      have nX7 : ¬ Exm B H7 S7 D := fun x => nX' (e77.own D x)
                      have sD7 := none_of e77 (by rw [hv]; simp) sD
                      have hlp := length_putK ws kk v
                      refine ⟨ws, kk, key_rp r7a ekk, hD7, big_lt (by omega), m - 1, by omega, by omega, S7, g7, putK ws kk v, putD kvs kk y, ?_, by rw [upd_upd]; exact step e77, upd_same, sD7, (rv.mono e77.base).put kk r7, by omega, h3⟩
                      -- the dict at D is nobody's
                      refine ⟨⟨fun a o q => ?_, fun a o q n => ?_, I7'.base, I7'.new, fun a q => ?_, I7'.no, ?_, fun a h x => I7'.own a h (xiff.mp x)⟩, I7'.len, I7'.sh, I7'.dw, I7'.sw, fun j b q => ?_, I7'.ap, I7'.mxMove (Same.refl _) (fun i b h => ⟨⟨b, h⟩, rfl⟩) (fun i rows h => h) (fun j rows a' q k => ?_) fun j rows a' cs _ q k k3 x hx => ?_⟩
                      · rw [upd_ne (ne_of_none q sD7)]; exact I7'.sub _ _ q
                      · have hB : B.H D = none := by
                          cases z : B.H D with
                          | none => rfl
                          | some u => exact absurd nD (I.there D (by rw [z]; simp))
                        rw [upd_ne (ne_of_none q hB)]; exact I7'.keep a o q n
                      · by_cases ha : a = D
                        · subst ha; rw [upd_same]; simp
                        · rw [upd_ne ha]; exact I7'.there a q
                      · exact I7'.dr.mono (Same.refl _) (fun a x => upd_ne fun z => nX7 (by rw [← z]; exact x)) fun _ _ z => z
                      · obtain ⟨a, o, h1, h2, h4, h5, h6, h7⟩ := I7'.ow j b q
                        obtain ⟨a', o', k1, _, _, _, k5, _⟩ := I.ow j b q
                        have ea : a' = a := by
                          rw [h1] at k1
                          injection k1 with k1
                          injection k1 with k1
                          injection k1 with k1
                          exact k1.symm
                        subst ea
                        have hne : a' ≠ D := fun z => by rw [z, nD] at k5; cases k5
                        exact ⟨a', o, h1, h2, fun x => h4 (xiff.mp x), h5, by rw [upd_ne hne]; exact h6, h7⟩
                      · obtain ⟨a0, o, k1, _, _, _, k5, _⟩ := I.ow j _ q
                        have ea := addr_of k k1
                        subst ea
                        have hne : a' ≠ D := fun z => by rw [z, nD] at k5; cases k5
                        exact upd_ne hne
                      · have g7 := (I7'.mx j rows a' cs q k k3).1.row (I7'.rowsAt q k k3) hx
                        have hne : x ≠ D := fun z => by
                          subst z
                          obtain ⟨a0, o0, l1, _, l3, _, l5, _⟩ := I.ow j _ q
                          have ea := addr_of k l1
                          subst ea
                          have hne : a' ≠ x := fun z => by rw [z, nD] at l5; cases l5
                          have l7 := e3.keep a' o0 (by rw [upd_ne hne]; exact e1.keep a' o0 l5 l3) fun x => l3 (e1.own _ (xiff.mp x))
                          rw [upd_ne hne] at l7
                          have l6 := e77.keep a' o0 l7 fun x => l3 (e1.own _ (xiff.mp (e3.own _ (xiff.mpr x))))
                          rw [k3] at l6
                          rw [← l6] at l5
                          exact ((I.mx j rows a' cs q k l5).1.row (I.rowsAt q k l5) hx).2.2.2 nD
                        exact ⟨upd_ne hne, g7.1, xiff.mp⟩
        · have hdrop : ds.drop i = [] := List.drop_eq_nil_of_le (by omega)
          rw [hdrop] at h3
          simp only [compK, R.bind_ok] at h3
          refine .inl ⟨it.stop i H' (by omega) (e3'.trans I3.sub), ?_⟩
          refine h3 D (.dK ws) H' S' I3 ?_ sD nD hv (.dk rv)
          refine e1.trans ⟨fun a o q n => ?_, e3.base, fun a q => ?_, fun a q => ?_, fun a x => xiff.mp (e3.own a (xiff.mpr x))⟩
          · have ha : a ≠ D := ne_of_none q hD
            have z := e3.keep a o (by rw [upd_ne ha]; exact q) fun x => n (xiff.mp x)
            rw [upd_ne ha] at z
            exact z
          · rcases e3.new a q with z | z
            · exact .inl z
            · by_cases ha : a = D
              · subst ha; exact .inr hD
              · rw [upd_ne ha] at z; exact .inr z
          · by_cases ha : a = D
            · subst ha; rw [hv]; simp
            · have z := e3.there a (by rw [upd_ne ha]; exact q)
              rw [upd_ne ha] at z
              exact z
    · rw [if_neg hz] at h
      exact False.elim h
theorem po_dc {kx vx tg iter : Expr} {ifs : List Expr} {scope : Scope} {own : List (Str × Nat)} {ts : List Nat} {fi : Ar} {ft : Tg} {fc : Te} {fk fv : Ex} (hc : X.calm = true) (hN : X.N.Nodup) (hi : PI X tg iter (tI cls W fi)) (ok : BlkOk X.N X.env.scope scope own)
    (hg : ∀ (s : Shared) (H : Hp) (C : Addr) (cl : List (Str × Addr)) (fp : List Addr), PG (X.blk s H scope (compEnvC scope cl C X.env) fp) tg (tG ts ft)) (ht : ∀ (s : Shared) (H : Hp) (C : Addr) (cl : List (Str × Addr)) (fp : List Addr), PTs (X.blk s H scope (compEnvC scope cl C X.env) fp) ifs (tT cls W0 fc))
    (hk : ∀ (s : Shared) (H : Hp) (C : Addr) (cl : List (Str × Addr)) (fp : List Addr), PE (X.blk s H scope (compEnvC scope cl C X.env) fp) kx (tE cls W0 fk)) (he : ∀ (s : Shared) (H : Hp) (C : Addr) (cl : List (Str × Addr)) (fp : List Addr), PE (X.blk s H scope (compEnvC scope cl C X.env) fp) vx (tE cls W0 fv)) (hts : ∀ i ∈ ts, i ∈ own.map (·.2) := by decide) (hs : ∀ x, foldedSetIterable iter X.env x = pure x := by intro _; rfl) :
    PE X (.DictComp kx vx [⟨tg, iter, ifs, 0⟩] scope pos) (tO cls W (dcO fi (own.map (·.2)) ft fc fk fv)) := PE_imp (pe_dc hc hN hi ok hg ht hk he hs) (dc_of hts)
end
end DL

set_option Elab.async false
set_option linter.all false
set_option maxRecDepth 100000
set_option maxHeartbeats 400000
/-! The data layer, part 22: sorted(a list of whole numbers), sorted(set(a list of whole numbers)). -/
namespace DL
open PySem PySem.Spec PyProof.Rows L2
variable {cls : Nat → Value}
/-! ### sorting in plain Lean -/
def insI (n : Int) : List Int → List Int
  | [] => [n]
  | m :: r => if n ≤ m then n :: m :: r else m :: insI n r
def srt : List Int → List Int
  | [] => []
  | n :: r => insI n (srt r)
theorem insI_perm (n : Int) : ∀ l : List Int, (insI n l).Perm (n :: l)
  | [] => .refl _
  | m :: r => by
    unfold insI
    split
    · exact .refl _
    · exact ((insI_perm n r).cons m).trans (.swap n m r)
theorem srt_perm : ∀ l : List Int, (srt l).Perm l
  | [] => .refl _
  | n :: r => (insI_perm n (srt r)).trans ((srt_perm r).cons n)
theorem insI_le {n : Int} : ∀ {l : List Int}, l.Pairwise (· ≤ ·) → (insI n l).Pairwise (· ≤ ·)
  | [], _ => List.pairwise_cons.mpr ⟨fun _ h => (nomatch h), .nil⟩
  | m :: r, h => by
    obtain ⟨h1, h2⟩ := List.pairwise_cons.mp h
    unfold insI
    split
    · rename_i hm
      refine List.pairwise_cons.mpr ⟨fun x hx => ?_, h⟩
      rcases List.mem_cons.mp hx with z | z
      · subst z; exact hm
      · exact Int.le_trans hm (h1 x z)
    · rename_i hm
      refine List.pairwise_cons.mpr ⟨fun x hx => ?_, insI_le h2⟩
      rcases List.mem_cons.mp ((insI_perm n r).mem_iff.mp hx) with z | z
      · subst z; omega
      · exact h1 x z
theorem srt_le : ∀ l : List Int, (srt l).Pairwise (· ≤ ·)
  | [] => .nil
  | n :: r => insI_le (srt_le r)
theorem le_one : ∀ {l r : List Int}, l.Pairwise (· ≤ ·) → r.Pairwise (· ≤ ·) → l.Perm r → l = r
  | [], r, _, _, p => (List.Perm.nil_eq p)
  | a :: l, [], _, _, p => absurd p.length_eq (by simp)
  | a :: l, b :: r, h, k, p => by
    obtain ⟨h1, h2⟩ := List.pairwise_cons.mp h
    obtain ⟨k1, k2⟩ := List.pairwise_cons.mp k
    have e : a = b := by
      have ha : a ∈ b :: r := p.mem_iff.mp List.mem_cons_self
      have hb : b ∈ a :: l := p.mem_iff.mpr List.mem_cons_self
      rcases List.mem_cons.mp ha with z | z
      · exact z
      · rcases List.mem_cons.mp hb with y | y
        · exact y.symm
        · have := h1 b y
          have := k1 a z
          omega
    subst e
    rw [le_one h2 k2 (List.Perm.cons_inv p)]
/-- members once each, rising -/
def once : List Int → List Int
  | [] => []
  | n :: r => if n ∈ once r then once r else n :: once r
theorem once_mem {k : Int} : ∀ {l : List Int}, k ∈ once l ↔ k ∈ l
  | [] => Iff.rfl
  | n :: r => by
    unfold once
    split
    · rename_i h
      rw [once_mem, List.mem_cons]
      constructor
      · exact .inr
      · rintro (rfl | z)
        · exact once_mem.mp h
        · exact z
    · rw [List.mem_cons, List.mem_cons, once_mem]
theorem once_nodup : ∀ l : List Int, (once l).Nodup
  | [] => .nil
  | n :: r => by
    unfold once
    split
    · exact once_nodup r
    · rename_i h
      exact List.nodup_cons.mpr ⟨h, once_nodup r⟩
def srtS (l : List Int) : List Int := srt (once l)
theorem srtS_mem {k : Int} {l : List Int} : k ∈ srtS l ↔ k ∈ l := ((srt_perm _).mem_iff).trans once_mem
theorem lt_of {l : List Int} (h : l.Pairwise (· ≤ ·)) (n : l.Nodup) : l.Pairwise (· < ·) := by
  have := List.pairwise_and_iff.mpr ⟨h, n⟩
  exact this.imp fun {a b} z => by
    have := z.1
    have := z.2
    omega
theorem srtS_lt (l : List Int) : (srtS l).Pairwise (· < ·) := lt_of (srt_le _) ((srt_perm _).nodup_iff.mpr (once_nodup l))
theorem lt_one {l r : List Int} (h : l.Pairwise (· < ·)) (k : r.Pairwise (· < ·)) (m : ∀ x, x ∈ l ↔ x ∈ r) : l = r := by
  have nd : ∀ {s : List Int}, s.Pairwise (· < ·) → s.Nodup := fun {s} h => h.imp fun {a b} z => by omega
  have le : ∀ {s : List Int}, s.Pairwise (· < ·) → s.Pairwise (· ≤ ·) := fun {s} h => h.imp fun {a b} z => by omega
  exact le_one (le h) (le k) ((List.perm_ext_iff_of_nodup (nd h) (nd k)).mpr m)

/-! ### set(a list of whole numbers) -/
section
variable {P : Program} {w : World} {A : Around} {E : Value → Shared → Prop} {s : Shared}
abbrev newSet (w : World) : Obj := { cls := .type "set", dict := none, data := .set #[] 0 (.fresh 0 0 (!w.params.followText "set-order")) }
/-- what is known behind the filling -/
def Filled (w : World) (s : Shared) (ns : List Int) (s2 : Shared) : Prop := ∃ h' tk c, s2 = { s with heap := h', toks := tk } ∧ SetR w h' s.heap.objs.size (fun j => decide (j ∈ ns)) c ∧ c ≤ ns.length ∧ ∀ b o, s.heap.get? b = some o → h'.get? b = some o
set_option maxHeartbeats 3200000 in
theorem set_of_list {l : Addr} {items : Array Value} {ns : List Int} {Q : Value → Shared → Prop} (hh : A.handled = none) (hl : s.heap.IsList l items) (hit : IntsAre items.toList ns) (hb : ns.length + 1 < scanBound)
    (h : ∀ s2, Filled w s ns s2 → Q (.ref s.heap.objs.size) s2) : wpAny (model P w) A (call (.type "set") [.ref l]) Q E s := by
  have hisz : items.size = ns.length := by rw [← Array.length_toList]; exact IntsAre.length hit
  obtain ⟨c, tl, hmro⟩ := F.called_set.mro
  have hmade := F.called_set.made
  have hsub := F.called_set.sub
  refine wpAny_call (codeAny_of_tree ?_)
  show wpAny _ _ (callAny (.type "set") _) _ _ _
  refine wpAny_pure ⟨Code.quiet_builtin _ (by decide +kernel), codeAny_builtin F.entry_type_call ?_⟩
  rw [Around.under_plain (weight_type_call_type "set" [.ref l] []) rfl]
  have h1 := F.called_set.notType
  have h2 := F.called_set.canCreate
  have hct := F.typeCall_set_1 (.ref l)
  repeat (any_goals (first | assumption | wp_step))
  refine codeAny_mono (code_set_led1 (.ref l) (E := E) (Q₁ := fun obj s₁ => obj = .ref s.heap.objs.size ∧ s₁ = { s with heap := s.heap.push (newSet w) }) ⟨rfl, rfl⟩) fun r s₁ hr => ?_
  have hS : (s.heap.push (newSet w)).get? s.heap.objs.size = some (newSet w) := Heap.get?_push_size _ rfl
  cases r with
  | error e => exact hr
  | ok fl =>
    cases fl with
    | ret obj =>
      obtain ⟨rfl, rfl⟩ := hr
      have hT : Shared.TypeIs { s with heap := s.heap.push (newSet w) } (.ref s.heap.objs.size) "set" := ⟨_, hS, rfl⟩
      have hli := F.called_set.init.lookup
      have hbi := F.called_set.init.bind (.ref s.heap.objs.size)
      repeat (any_goals (first | assumption | wp_step))
      refine codeAny_mono (codeAny_call_builtin (R := wants (fun r s₂ => r = .none ∧ Filled w s ns s₂) E) F.called_set.init.plain F.entry_set_init (check_set_init_1 hT ?_)) fun r₂ s₂ hr₂ => ?_
      · obtain ⟨⟨ocls, odict, odata, oslots⟩, hol, hcl, nl, hdl⟩ := hl
        simp only at hcl hdl
        subst hcl; subst hdl
        have hol' := Heap.get?_push_of_some (newSet w) hol
        have hl1 : (s.heap.push (newSet w)).IsList l items := ⟨_, hol', rfl, nl, rfl⟩
        have hsls := F.sub_list_set
        have hslf := F.sub_list_frozenset
        have hne : (Value.type "list" == Value.type "dict") = false := by decide
        unfold Builtin.«set.__init__» noKeywords Builtin.Frozenset.updateFrom
        generalize hPI : pyIter = PI
        wp_walk
        subst hPI
        refine wpAny_pyIter_list hl1 ?_
        refine wpAny_bind (wpAny_runValue ?_)
        have hlS : l < s.heap.objs.size := Heap.lt_size hol
        have hh3 : A.in1.in1.in1.handled = none := by simp [hh]
        have hz1 : (s.heap.push (newSet w)).objs.size = s.heap.objs.size + 1 := Heap.size_push ..
        have hneI : l ≠ (s.heap.push (newSet w)).objs.size := fun z => Nat.ne_of_lt (by rw [hz1]; exact Nat.lt_succ_of_lt hlS) z
        have hSf : s.heap.objs.size ∉ [(s.heap.push (newSet w)).objs.size, l] := by
          intro hm
          rcases List.mem_cons.mp hm with z | z
          · exact Nat.ne_of_lt (by rw [hz1]; exact Nat.lt_succ_self _) z
          · exact Nat.ne_of_gt hlS (List.mem_singleton.mp z)
        have hval : ∀ (i : Nat) (v : Value), items[i]? = some v → ∃ k t, ns[i]? = some k ∧ v = .int k t := fun i v hv => by
          have hi : i < ns.length := by rw [← hisz]; exact (Array.getElem?_eq_some_iff.mp hv).1
          obtain ⟨t, e⟩ := PyProof.Rows.IntsAre.int_at hit i v (by rw [Array.getElem?_toList]; exact hv)
          refine ⟨ns[i], t, List.getElem?_eq_getElem hi, ?_⟩
          rw [e, List.getD_eq_getElem?_getD, List.getElem?_eq_getElem hi] <;> rfl
        refine set_update_ints ((Walks.list hh3 _ l hneI items).toS) s.heap.objs.size hSf ns hisz hb hval (items.size - 0) 0 _ (by omega) (Nat.zero_le _)
          ⟨⟨_, Heap.get?_push_size _ rfl, rfl, rfl⟩, (hl1.push _)⟩ ?_ fun s' c' hm hc' hS' => ?_
        · exact ⟨0, Nat.le_refl 0, setR_new_at (Heap.get?_push_of_some _ hS)⟩
        · obtain ⟨h', g2, d', tk', os'⟩ := s'
          obtain rfl : g2 = s.gens := hm.gens
          obtain rfl : d' = s.drawn := hm.drawn
          obtain rfl : os' = s.os := hm.os
          show wpAny _ _ _ _ _ _
          refine wpAny_pure ?_
          show wpAny _ _ (ret Value.none) _ _ _
          rw [hisz] at hc'
          refine wpAny_pure ⟨rfl, h', tk', c', rfl, hS', hc', fun b o e => ?_⟩
          have hb0 : b < s.heap.objs.size := Heap.lt_size e
          refine hm.heap b o (fun hm => ?_) (Heap.get?_push_of_some _ (Heap.get?_push_of_some _ e))
          rcases List.mem_cons.mp hm with z | z
          · exact Nat.ne_of_lt hb0 z
          · exact Nat.ne_of_lt (by rw [hz1]; exact Nat.lt_succ_of_lt hb0) (List.mem_singleton.mp z)
      · cases r₂ with
        | error e => exact hr₂
        | ok fl₂ =>
          cases fl₂ with
          | ret r =>
            obtain ⟨rfl, hf⟩ := hr₂
            repeat (any_goals (first | assumption | wp_step))
            exact h _ hf
          | _ => exact hr₂.elim
    | _ => exact hr.elim
end
def rSetL (K : PySem.W.Frag) (w : World) : List V → Hp → VK → Prop := fun xs H Q => ∃ (l : Addr) (ns : List Int), xs = [V.ref l] ∧ SqL K H l (ns.map V.int) ∧ ns.length ≤ 1000 ∧
  ∀ p c, H p = none → c = (once ns).length → Q (.ref p) (upd H p (SetO w p (fun j => decide (j ∈ ns)) c))
section
variable {X : Cx} {cls : Nat → Value} {W : WX} {pos : Pos} {a b : Expr} {fa fb : Ex}
theorem cr_setL (hc : X.calm = true) : CallR X (.type "set") (rSetL X.K X.w) := by
  intro pins s σ H xs us Q I r h
  obtain ⟨l, ns, rfl, hs, hn, q⟩ := h
  rw [Vals.ref1 r]
  obtain ⟨its, rv, pl, hz⟩ := I.list hs
  refine set_of_list (P := X.prog) (w := X.w) (ns := ns) (I.ok.hd hc) pl.isList (by simpa using rv.ints) (by unfold scanBound; omega) fun s2 hf => ?_
  obtain ⟨h', tk, c, rfl, R, hcl, k⟩ := hf
  have hc2 : c = (once ns).length := by
    obtain ⟨o, es, ep, t, h1, h2, h3, h4, h5, h6, h7, h8, h9, _⟩ := R
    have e := (List.perm_ext_iff_of_nodup h5 (once_nodup ns)).mpr fun z => by
      rw [← h6 z, once_mem]
      simp
    have := e.length_eq
    rw [List.length_map, Array.length_toList] at this
    omega
  exact ⟨.ref s.heap.objs.size, _, I.laid (t' := tk) k (Nat.le_refl _) (setO_new R), rfl, q _ c (I.hok.fresh (Nat.le_refl _)) hc2⟩
/-- sorted(e) -/
def sortO (f : Ex) : Ow := fun ρ g => (f ρ g).bind fun x g1 => match x with
  | .list ds => (match intsD ds with
    | some ns => .ok (.lst ((srt ns).map PyData.int)) g1
    | none => .bad)
  | _ => .bad
/-- sorted(set(e)) -/
def sortSO (f : Ex) : Ow := fun ρ g => (f ρ g).bind fun x g1 => match x with
  | .list ds => (match intsD ds with
    | some ns => if ns.length ≤ 1000 ∧ (once ns).length ≤ 60 then .ok (.lst ((srtS ns).map PyData.int)) g1 else .bad
    | none => .bad)
  | _ => .bad
theorem sort_back {S : Hp} {xs : List V} {ds : List PyData} {ns : List Int} (h : intsD ds = some ns) (q : Rps S xs ds) : xs = ns.map V.int := by
  rw [intsD_eq h] at q
  exact q.ints
theorem rps_ints {S : Hp} : ∀ ns : List Int, Rps S (ns.map V.int) (ns.map PyData.int)
  | [] => .nil
  | n :: ns => .cons (.int n) (rps_ints ns)
theorem po_sort {p : Pos} (hm : X.mg "sorted" = none) (ha : PE X a (tE cls W fa)) (hg : Gl X "sorted" := by rfl) (hs : starEach [a] X.env = (false, eval a X.env) :: starEach [] X.env := by rfl) (hpl : (backTo pos (starEach [] X.env)).any (·.1) = false := by rfl) : PE X (.Call (.Name "sorted" p) [a] [] pos) (tO cls W (sortO fa)) :=
  PE_imp (pe_callB cr_sortedI hg hm PyProof.Rows.boot_sorted (pa_cons ha pa_nil hs) (by decide) (by decide) hs hpl) fun σ H Q ⟨B, S, ρ, g, I, h⟩ => by
    unfold sortO at h
    refine ⟨B, S, ρ, g, I, ?_⟩
    cases ea : fa ρ g with
    | bad => rw [ea] at h; exact h
    | ex n g1 => rw [ea] at h; exact h
    | ok x g1 =>
      rw [ea] at h
      simp only [R.bind_ok] at h
      intro v H1 S1 I1 e1 r1
      cases r1 with
      | @lst b xs ds hb q =>
        cases hi : intsD ds with
        | none => simp only [hi] at h; exact False.elim h
        | some ns =>
          simp only [hi] at h
          have ex := sort_back hi q
          subst ex
          refine ⟨b, ns, rfl, .of (I1.sub _ _ hb), fun ns' l hp hr hl => ?_⟩
          have en : ns' = srt ns := le_one hr (srt_le ns) (hp.trans (srt_perm ns).symm)
          subst en
          obtain ⟨I2, e2⟩ := I1.allocO (o := .lst ((srt ns).map V.int)) hl
          exact h l _ _ _ I2 (e1.trans e2) (I1.stay hl) (none_back e1 hl) upd_same (.lst (rps_ints _))
      | _ => exact False.elim h
theorem po_sortS {p p2 pos2 : Pos} (hc : X.calm = true) (hm : X.mg "sorted" = none) (hm2 : X.mg "set" = none) (ha : PE X a (tE cls W fa)) (hg : Gl X "sorted" := by rfl) (hg2 : Gl X "set" := by rfl) (hs : starEach [a] X.env = (false, eval a X.env) :: starEach [] X.env := by rfl) (hpl2 : (backTo pos2 (starEach [] X.env)).any (·.1) = false := by rfl)
    (hs2 : starEach [.Call (.Name "set" p2) [a] [] pos2] X.env = (false, eval (.Call (.Name "set" p2) [a] [] pos2) X.env) :: starEach [] X.env := by rfl) (hpl : (backTo pos (starEach [] X.env)).any (·.1) = false := by rfl) :
    PE X (.Call (.Name "sorted" p) [.Call (.Name "set" p2) [a] [] pos2] [] pos) (tO cls W (sortSO fa)) :=
  PE_imp (pe_callB (cr_sortedSet hc) hg hm PyProof.Rows.boot_sorted (pa_cons (pe_callTy (cr_setL hc) hg2 hm2 PyProof.Rows.boot_set (pa_cons ha pa_nil hs) (by decide) (by decide) hs hpl2) pa_nil hs2) (by decide) (by decide) hs2 hpl) fun σ H Q ⟨B, S, ρ, g, I, h⟩ => by
    unfold sortSO at h
    refine ⟨B, S, ρ, g, I, ?_⟩
    cases ea : fa ρ g with
    | bad => rw [ea] at h; exact h
    | ex n g1 => rw [ea] at h; exact h
    | ok x g1 =>
      rw [ea] at h
      simp only [R.bind_ok] at h
      intro v H1 S1 I1 e1 r1
      cases r1 with
      | @lst b xs ds hb q =>
        cases hi : intsD ds with
        | none => simp only [hi] at h; exact False.elim h
        | some ns =>
          simp only [hi] at h
          by_cases hz : ns.length ≤ 1000 ∧ (once ns).length ≤ 60
          · rw [if_pos hz] at h
            have ex := sort_back hi q
            subst ex
            refine ⟨b, ns, rfl, .of (I1.sub _ _ hb), hz.1, fun sp c hsp hcl => ?_⟩
            obtain ⟨I2, e2⟩ := I1.allocO (o := SetO X.w sp (fun j => decide (j ∈ ns)) c) hsp
            refine ⟨sp, _, c, rfl, upd_same, by omega, fun ns' l hr hmem hlen hl => ?_⟩
            have en : ns' = srtS ns := lt_one hr (srtS_lt ns) fun k => by rw [hmem k, srtS_mem]; simp
            subst en
            obtain ⟨I3, e3⟩ := I2.allocO (o := .lst ((srtS ns).map V.int)) hl
            exact h l _ _ _ I3 ((e1.trans e2).trans e3) (I2.stay hl) (none_back (e1.trans e2) hl) upd_same (.lst (rps_ints _))
          · rw [if_neg hz] at h; exact False.elim h
      | _ => exact False.elim h
end
end DL

set_option Elab.async false
set_option linter.all false
set_option maxRecDepth 100000
set_option maxHeartbeats 400000
/-! The data layer, part 23: x += e of whole numbers. -/
namespace DL
open PySem PySem.Spec PyProof.Rows L2
variable {cls : Nat → Value}
section
variable {X : Cx} {cls : Nat → Value} {W : WX} {pos : Pos} {a : Expr} {fa : Ex}
def addZ : PyData → PyData → Option PyData
  | .int i, .int j => some (.int (i + j))
  | _, _ => none
theorem addZ_eq : addZ = (fun x y => match x, y with | .int i, .int j => some (.int (i + j)) | _, _ => none) := by
  funext x y
  cases x <;> cases y <;> rfl
theorem psd_augA (i : Nat) {x : Str} {pos' : Pos} (hN : X.N.Nodup) (ha : PE X a (tE cls W fa)) (hi : X.N[i]? = some x := by rfl) (hx : Loc X.env.scope x := by first | exact Or.inl rfl | exact Or.inr rfl)
    (hf : X.fn x = true ∨ X.env.scope.names.lookup x = some .local := by first | exact .inl rfl | exact .inr rfl | assumption) : PS X (.AugAssign (.Name x pos') .Add a pos) (tS cls W (setS i (opD addZ (varD i) fa))) := by
  rw [addZ_eq]
  exact psd_aug_add i hN ha hi hx hf
end
end DL

set_option Elab.async false
set_option linter.all false
set_option maxRecDepth 100000
set_option maxHeartbeats 400000
/-! A def handed to a def: the last argument is a def of the table (cls 1 ..), a slot .sc (n + 1). -/
namespace DL
open PySem PySem.Spec PyProof.Rows L2
variable {cls : Nat → Value}
/-- what is read, and behind it the table's n-th -/
def tAF (cls : Nat → Value) (W : WX) (n : Nat) (f : Ar) : TA := fun σ H Q => ∃ (B : Bs cls) (S : Hp) (ρ : Nv) (g : G), Good B σ H S ρ g ∧ AO cls W B σ H S ρ (fun vs H' => Q (vs ++ [vOf (cls (n + 1))]) H') (f ρ g)
theorem ref_v {u : Value} (h : ∃ f, u = .ref f) : RelV (vOf u) u := by
  obtain ⟨f, rfl⟩ := h
  rfl
section
variable {X : Cx} {W : WX} {pos : Pos} {e : Expr} {es : List Expr} {fa : Ar} {va : Ex} {n : Nat}
theorem paf_one {y : Str} {py : Pos} (hm : X.mg y = some (cls (n + 1))) (hf : ∃ f, cls (n + 1) = .ref f) (hg : Gl X y := by rfl) (hd : (y == ("__debug__" : Str)) = false := by decide)
    (hs : starEach [.Name y py] X.env = (false, eval (.Name y py) X.env) :: starEach [] X.env := by rfl) : PA X [.Name y py] (tAF cls W n nilD) :=
  PA_imp (pa_cons (pe_glob hg hm (ref_v hf) hd) pa_nil hs) fun σ H Q ⟨B, S, ρ, g, I, h⟩ => by
    have h' : ∀ vs H' S', Good B σ H' S' ρ g → Gr B H S H' S' → Rps S' vs [] → Q (vs ++ [vOf (cls (n + 1))]) H' := h
    exact h' [] H S I .refl .nil
theorem paf_cons (ha : PE X e (tE cls W va)) (hr : PA X es (tAF cls W n fa)) (hs : starEach (e :: es) X.env = (false, eval e X.env) :: starEach es X.env := by rfl) : PA X (e :: es) (tAF cls W n (consD va fa)) :=
  PA_imp (pa_cons ha hr hs) fun σ H Q ⟨B, S, ρ, g, I, h⟩ => by
    unfold consD at h
    refine ⟨B, S, ρ, g, I, ?_⟩
    cases ea : va ρ g with
    | bad => rw [ea] at h; exact h
    | ex n g1 => rw [ea] at h; exact h
    | ok d g1 =>
      rw [ea] at h
      intro v H1 S1 I1 e1 r1
      simp only [R.bind_ok] at h
      have h1 := AO_gr e1 h
      refine ⟨B, S1, ρ, g1, I1, ?_⟩
      cases eb : fa ρ g1 with
      | bad => rw [eb] at h1; exact h1
      | ex n g2 => rw [eb] at h1; exact h1
      | ok ds g2 =>
        rw [eb] at h1
        intro vs H2 S2 I2 e2 r2
        exact h1 (v :: vs) H2 S2 I2 e2 (.cons (r1.mono e2.base) r2)
end
/-- the promise of a def whose last argument is the table's n-th -/
def spFF (cls : Nat → Value) (ar n : Nat) (m : Fn) : Sp := fun vs H Q E => vs.length = ar ∧ ∃ (A : Addr) (live : Bool) (nv : V) (S : Hp) (us : List V) (ds : List PyData) (g : G), vs = us ++ [vOf (cls (n + 1))] ∧ Fin (cls := cls) ⟨A, live, S, H, 0, nv, false⟩ H S g ∧ Rps S us ds ∧ FO cls ⟨A, live, S, H, 0, nv, false⟩ Q E (m ds g)
@[simp] def fnF (n i : Nat) (body : Sm) : Fn := fun ds g => match body (ds.map .sh ++ .sc (i + 1) :: List.replicate n .no) g with
  | .nx _ g1 => .ok .none g1
  | .rt d g1 => .ok d g1
  | .ex k _ g1 => .ex k g1
  | _ => .bad
structure KeptF (P : Program) (w : World) (K : PySem.W.Frag) (mg : Str → Option Value) (base : Heap) (cls : Nat → Value) (x : Str) (ps : List Str) (n : Nat) (m : Fn) (k : Nat) : Prop where
  ex : ∃ (f : Addr) (fd : FuncData), mg x = some (.ref f) ∧ PySem.W.keepIn K (.ref f) = true ∧ L2.Binds K fd ps [] ∧ FnOk P w K mg base (L2.CX P w) k f fd ps (spFF cls ps.length n m)
section
variable {P : Program} {w : World} {K : PySem.W.Frag} {mg : Str → Option Value} {base : Heap} {cls : Nat → Value}
theorem slF {ds : List PyData} {k n j : Nat} {z : Sl} (h : (ds.map Sl.sh ++ .sc k :: List.replicate n .no)[j]? = some z) (hz : z ≠ .no) : (j < ds.length ∧ (ds.map Sl.sh)[j]? = some z) ∨ (j = ds.length ∧ z = .sc k) := by
  by_cases hj : j < ds.length
  · rw [List.getElem?_append_left (by rw [List.length_map]; exact hj)] at h
    exact .inl ⟨hj, h⟩
  · rw [List.getElem?_append_right (by rw [List.length_map]; omega), List.length_map] at h
    cases e : j - ds.length with
    | zero =>
      rw [e] at h
      exact .inr ⟨by omega, (Option.some.inj h).symm⟩
    | succ i =>
      rw [e, List.getElem?_cons_succ, List.getElem?_replicate] at h
      split at h
      · exact absurd (Option.some.inj h).symm hz
      · cases h
theorem slD_sh {ds : List PyData} {j : Nat} {z : Sl} (h : (ds.map Sl.sh)[j]? = some z) : ∃ d, z = .sh d := by
  rw [List.getElem?_map] at h
  cases e : ds[j]? with
  | none => rw [e] at h; cases h
  | some d => rw [e] at h; exact ⟨d, (Option.some.inj h).symm⟩
theorem start_goodF {A : Addr} {live : Bool} {nv : V} {S H : Hp} {us vs : List V} {ds : List PyData} {g : G} {N : List Str} {n i : Nat} (F : Fin (cls := cls) ⟨A, live, S, H, 0, nv, false⟩ H S g) (hv : vs = us ++ [vOf (cls (i + 1))]) (r : Rps S us ds) (hn : N.length - vs.length = n) :
    Good (cls := cls) ⟨A, live, S, H, 0, nv, false⟩ (L2.start N vs) H S (ds.map .sh ++ .sc (i + 1) :: List.replicate n .no) g := by
  have hst : ∀ (i : Nat) (v : V), (vs.map some)[i]? = some (some v) → (L2.start N vs)[i]? = some (some v) := fun i v h => by
    unfold L2.start
    rw [List.getElem?_append_left (List.getElem?_eq_some_iff.mp h).1]
    exact h
  have hul := r.length
  have noow : ∀ (j : Nat) (b : Ob), (ds.map Sl.sh ++ .sc (i + 1) :: List.replicate n .no)[j]? ≠ some (.ow b) := fun j b h => by
    rcases slF h (fun z => nomatch z) with ⟨_, h⟩ | ⟨_, h⟩
    · obtain ⟨d, e⟩ := slD_sh h; cases e
    · cases h
  refine ⟨F, ?_, fun j d h => ?_, fun j {_} h => ?_, fun j m h => ?_, fun j b h => absurd h (noow j b), (fun j l b c a h _ _ _ => absurd h (noow j b)), fun j rows a cs h _ _ => absurd h (noow j _)⟩
  · unfold L2.start
    rw [List.length_append, List.length_append, List.length_map, List.length_replicate, List.length_cons, List.length_replicate, hn, hv, List.length_append, List.length_singleton, List.length_map, hul]
    omega
  · rcases slF h (fun z => nomatch z) with ⟨hj, h⟩ | ⟨_, h⟩
    · obtain ⟨v, h1, h2⟩ := r.sh h
      refine ⟨v, hst _ _ ?_, h2⟩
      rw [hv, List.map_append, List.getElem?_append_left (by rw [List.length_map, hul]; exact hj)]
      exact h1
    · cases h
  · rcases slF h (fun z => nomatch z) with ⟨_, h⟩ | ⟨_, h⟩
    · obtain ⟨d, e⟩ := slD_sh h; cases e
    · cases h
  · rcases slF h (fun z => nomatch z) with ⟨_, h⟩ | ⟨hj, h⟩
    · obtain ⟨d, e⟩ := slD_sh h; cases e
    · cases h
      refine hst _ _ ?_
      rw [hv, List.map_append, List.getElem?_append_right (by rw [List.length_map, hul, hj]; exact Nat.le_refl _), List.length_map, hul, hj, Nat.sub_self]
      rfl
/-- THE RULE for a def that is handed a def -/
theorem fn_okF {x : Str} {st : Stmt} {N ps : List Str} {k i : Nat} {body : Sm} (Fx : ∃ (f : Addr) (fd : FuncData), Fun K x x st f fd ∧ mg x = some (.ref f) ∧ L2.Binds K fd ps []) (S : FnScope N ps (defScope st))
    (hd : ∀ (f : Addr) (cdv : Value) (A : Around) (outer : List PySem.Env) (s : Shared) (H : Hp) (E : XK), Room k (A.deeper (envOfC x (defScope st) s.heap.objs.size f cdv)) →
      PSs (cxOf (L2.CX P w) P w K mg base N x (defScope st) f cdv A outer s H E) (defBody st) (tS cls (fun c d _ H => E c d H) body)) {n : Nat} (hn : N.length - ps.length = n := by rfl) :
    KeptF P w K mg base cls x ps i (fnF n i body) (k + 1) := by
  obtain ⟨f, fd, F, hm, hb⟩ := Fx
  refine ⟨f, fd, hm, F.kp, hb, F.okX S (fun vs H Q E h => h.1) fun cdv A outer s H vs Q E hr h => ?_⟩
  obtain ⟨hl, A1, live, nv, S1, us, ds, g, hv, Fi, r, h⟩ := h
  refine ⟨_, hd f cdv A outer s H E hr, ⟨A1, live, S1, H, 0, nv, false⟩, S1, ds.map .sh ++ .sc (i + 1) :: List.replicate n .no, g, start_goodF Fi hv r (by rw [hl]; exact hn), ?_⟩
  unfold fnF at h
  cases eb : body (ds.map .sh ++ .sc (i + 1) :: List.replicate n .no) g with
  | nx ρ1 g1 => rw [eb] at h; exact fun σ' H' S' I' _ => h .non H' S' I'.toFin .non
  | rt d g1 => rw [eb] at h; exact fun v H' S' F' r' => h v H' S' F' r'
  | ex n ρ1 g1 => rw [eb] at h; exact fun σ' H' S' I' _ => h H' S' I'.toFin
  | bk ρ1 g1 => rw [eb] at h; exact False.elim h
  | ct ρ1 g1 => rw [eb] at h; exact False.elim h
  | bad => rw [eb] at h; exact h
end
section
variable {X : Cx} {W : WX} {pos p : Pos} {e : Expr} {es : List Expr} {fa : Ar} {x : Str} {ps : List Str} {m : Fn} {j k n : Nat}
/-- f(.., a def) -/
theorem pd_callF (F : KeptF X.prog X.w X.K X.mg X.base cls x ps n m j) (hr : Room k X.A) (hjk : j ≤ k) (tk : Takes X W) (ha : PA X (e :: es) (tAF cls W n fa)) (hg : Gl X x := by rfl) (hdb : (x == ("__debug__" : Str)) = false := by decide)
    (he : starEach (e :: es) X.env = (false, eval e X.env) :: starEach es X.env := by rfl) (hpl : (backTo pos (starEach es X.env)).any (·.1) = false := by rfl) {ar : Nat} (har : ps.length = ar + 1 := by rfl) : PE X (.Call (.Name x p) (e :: es) [] pos) (tE cls W (callD ar m fa)) := by
  obtain ⟨f, fd, hm, hk, hb, F⟩ := F.ex
  exact PE_imp (pe_callS F (hr.mono hjk) hg hm hk hb (fun σ => passAt tk σ) ha hdb he hpl) fun σ H Q ⟨B, S, ρ, g, I, h⟩ => by
    unfold callD at h
    refine ⟨B, S, ρ, g, I, ?_⟩
    cases ea : fa ρ g with
    | bad => rw [ea] at h; exact h
    | ex n g1 => rw [ea] at h; exact h
    | ok ds g1 =>
      rw [ea] at h
      intro vs H1 S1 I1 e1 r1
      have h' := EO_gr e1 h
      simp only [R.bind_ok] at h'
      by_cases hl : ds.length = ar
      · rw [if_pos hl] at h'
        refine ⟨by rw [List.length_append, List.length_singleton, r1.length, hl, har], B.A, B.live, B.N, S1, vs, ds, g1, rfl, I1.fin0, r1, ?_⟩
        cases em : m ds g1 with
        | ok d g2 =>
          rw [em] at h'
          intro v H2 S2 F2 r2
          obtain ⟨I2, e2⟩ := I1.after F2
          exact h' v H2 S2 I2 e2 r2
        | ex n g2 =>
          rw [em] at h'
          intro H2 S2 F2
          obtain ⟨I2, e2⟩ := I1.after F2
          exact h' H2 S2 I2 e2
        | bad => rw [em] at h'; exact h'
      · rw [if_neg hl] at h'
        exact False.elim h'
/-- a local name's def, the table's n-th, in slot i: called -/
@[simp] def callL (ar i n : Nat) (m : Fn) (fa : Ar) : Ex := fun ρ g => match ρ[i]? with
  | some (.sc c) => if c = n + 1 then (fa ρ g).bind fun ds g1 => if ds.length = ar then (match m ds g1 with
    | .ok d g2 => .ok d g2
    | _ => .bad) else .bad else .bad
  | _ => .bad
theorem pd_callL (i : Nat) {y : Str} (F : Kept X.prog X.w X.K X.mg X.base cls x ps false m j) (hx : X.mg x = some (cls (n + 1))) (hr : Room k X.A) (hjk : j ≤ k) (ha : PA X (e :: es) (tA cls W fa)) (hN : X.N[i]? = some y := by rfl) (hv : Vis X.env.scope y := by first | exact Or.inl rfl | exact Or.inr (Or.inl rfl) | exact Or.inr (Or.inr rfl))
    (hdb : (y == ("__debug__" : Str)) = false := by decide) (hcd : (y == ("__classdict__" : Str)) = false := by decide)
    (he : starEach (e :: es) X.env = (false, eval e X.env) :: starEach es X.env := by rfl) (hpl : (backTo pos (starEach es X.env)).any (·.1) = false := by rfl) {ar : Nat} (har : ps.length = ar := by rfl) : PE X (.Call (.Name y p) (e :: es) [] pos) (tE cls W (callL ar i n m fa)) := by
  subst har
  obtain ⟨f, fd, hm, hk, hb, F⟩ := F.ex
  have hc : cls (n + 1) = .ref f := Option.some.inj (hx.symm.trans hm)
  exact PE_imp (pe_callL (CX := L2.CX X.prog X.w) (i := i) (f := f) (dvs := []) (E := fun _ _ _ => False) F (hr.mono hjk) hN hv hk hb .nil (fun _ _ _ _ _ _ _ z => by
    obtain ⟨_, _, _, _, _, _, _, _, _, _, _, _, z⟩ := z
    exact z.elim) ha hdb hcd he hpl) fun σ H Q ⟨B, S, ρ, g, I, h⟩ => by
    unfold callL at h
    cases ei : ρ[i]? with
    | none => rw [ei] at h; exact False.elim h
    | some z =>
      cases z with
      | sc c =>
        rw [ei] at h
        simp only at h
        by_cases hcn : c = n + 1
        · subst hcn
          rw [if_pos rfl] at h
          have hs := I.sw i _ ei
          have hs : σ[i]? = some (some (vOf (cls (n + 1)))) := hs
          rw [hc] at hs
          refine ⟨hs, B, S, ρ, g, I, ?_⟩
          cases ea : fa ρ g with
          | bad => rw [ea] at h; exact h
          | ex n g1 => rw [ea] at h; exact h
          | ok ds g1 =>
            rw [ea] at h
            intro vs H1 S1 I1 e1 r1
            have h' := EO_gr e1 h
            simp only [R.bind_ok] at h'
            by_cases hl : ds.length = ps.length
            · rw [if_pos hl] at h'
              refine ⟨by rw [List.append_nil, r1.length]; exact hl, B.A, B.live, B.N, S1, vs, ds, g1, List.append_nil vs, (fun z => nomatch z), I1.fin0, r1, ?_⟩
              cases em : m ds g1 with
              | ok d g2 =>
                rw [em] at h'
                intro v H2 S2 F2 r2
                obtain ⟨I2, e2⟩ := I1.after F2
                exact h' v H2 S2 I2 e2 r2
              | ex n g2 => rw [em] at h'; exact False.elim h'
              | bad => rw [em] at h'; exact False.elim h'
            · rw [if_neg hl] at h'
              exact False.elim h'
        · rw [if_neg hcn] at h
          exact False.elim h
      | no => rw [ei] at h; exact False.elim h
      | sh d => rw [ei] at h; exact False.elim h
      | ow b => rw [ei] at h; exact False.elim h
      | dx b => rw [ei] at h; exact False.elim h
end
section
variable {X : Cx} {cls : Nat → Value} {W : WX} {fa fb : Ex} {e : Expr} {k : Nat}
/-- l.index(x), of data -/
def indexF : PyData → PyData → Option PyData
  | .list ds, y => if SeqAt.shaped (.list ds) = true ∧ SeqAt.shaped y = true ∧ (ds.any fun z => PyData.eqv z y) = true then some (.int ((ds.findIdx fun z => PyData.eqv z y : Nat) : Int)) else none
  | _, _ => none
@[simp] def indexG (fa fb : Ex) : Ex := fun ρ g => (fa ρ g).bind fun x g1 => match x with
  | .list ds => (fb ρ g1).bind fun y g2 => ofO (indexF (.list ds) y) g2
  | _ => .bad
theorem pd_indexD {o : Expr} {apos cpos : Pos} (hr : Room k X.A) (ho : PE X o (tE cls W fa)) (he : PE X e (tE cls W fb)) (hbase : attributeBase o "index" X.env (eval o X.env) = eval o X.env := by rfl)
    (hfew : ((backTo cpos (starEach (e :: []) X.env)).all (fun x => !x.1) && (backToKw cpos (keywordEach [] X.env)).all (fun x => x.1.isSome)
      && decide ((e :: ([] : List Expr)).length + ([] : List Keyword).length + (if ([] : List Keyword).isEmpty then 0 else 1) < 30)) = true := by rfl)
    (hline : (apos.endLine == cpos.line) = true := by rfl) (hs : starEach (e :: []) X.env = (false, eval e X.env) :: starEach [] X.env := by rfl) (hplain : (backTo cpos (starEach [] X.env)).any (·.1) = false := by rfl) :
    PE X (.Call (.Attribute o "index" apos) (e :: []) [] cpos) (tE cls W (indexG fa fb)) :=
  PE_imp (pe_bm PySem.F.plainAttrs_list PySem.F.slot_list_index PySem.F.type_list_index (mt_indexD (hu65 hr)) ho (pa_cons he pa_nil hs) hbase hfew hline hs hplain) fun σ H Q ⟨B, S, ρ, g, I, h⟩ => by
    unfold indexG at h
    refine ⟨B, S, ρ, g, I, ?_⟩
    cases ea : fa ρ g with
    | bad => rw [ea] at h; exact h
    | ex n g1 => rw [ea] at h; exact h
    | ok x g1 =>
      rw [ea] at h
      simp only [R.bind_ok] at h
      intro v H1 S1 I1 e1 r1
      cases r1 with
      | @lst l xs ds hx qx =>
        refine ⟨.inl ⟨rfl, xs, .of (I1.sub _ _ hx)⟩, B, S1, ρ, g1, I1, ?_⟩
        cases eb : fb ρ g1 with
        | bad => rw [eb] at h; exact h
        | ex n g2 => rw [eb] at h; exact fun H' S' I' e' => h H' S' I' (e1.trans e')
        | ok y g2 =>
          rw [eb] at h
          simp only [R.bind_ok] at h
          intro u H2 S2 I2 e2 r2
          unfold indexF at h
          simp only at h
          by_cases hc : SeqAt.shaped (.list ds) = true ∧ SeqAt.shaped y = true ∧ (ds.any fun z => PyData.eqv z y) = true
          · rw [if_pos hc] at h
            obtain ⟨h1, h2, h3⟩ := hc
            rw [List.any_eq_true] at h3
            have hlt : (ds.findIdx fun z => PyData.eqv z y) < ds.length := List.findIdx_lt_length_of_exists h3
            refine ⟨l, u, y, ds, ds.findIdx fun z => PyData.eqv z y, ds[ds.findIdx fun z => PyData.eqv z y], rfl, rfl, ?_, ?_, h1, h2, List.getElem?_eq_getElem hlt, ?_, ?_, ?_⟩
            · exact Rp.dp I2.sub (SeqAt.canLay_of_shaped h1) (.lst (e2.base _ _ hx) (qx.mono e2.base))
            · exact Rp.dp I2.sub (SeqAt.canLay_of_shaped h2) r2
            · exact List.findIdx_getElem (w := hlt)
            · intro m z' hm' hz
              have := List.not_of_lt_findIdx hm'
              rw [(List.getElem?_eq_some_iff.mp hz).2] at this
              simpa using this
            · exact h _ H2 S2 I2 (e1.trans e2) (.int _)
          · rw [if_neg hc] at h
            exact False.elim h
      | _ => exact False.elim h
end
end DL

set_option Elab.async false
set_option linter.all false
set_option maxRecDepth 100000
set_option maxHeartbeats 400000
/-! defs under a second name (two modules' defs of one name, linked) -/
namespace DL
open PySem PySem.Spec PyProof.Rows L2
section
variable {P : Program} {w : World} {K : PySem.W.Frag} {mg : Str → Option Value} {base : Heap} {cls : Nat → Value}
/-- the rule for a def that stands under another name, too -/
theorem fn_okY {x y : Str} {st : Stmt} {N ps : List Str} {k : Nat} {dr : Bool} {body : Sm} (Fx : ∃ (f : Addr) (fd : FuncData), Fun K x x st f fd ∧ mg y = some (.ref f) ∧ L2.Binds K fd ps []) (S : FnScope N ps (defScope st))
    (hd : ∀ (f : Addr) (cdv : Value) (A : Around) (outer : List PySem.Env) (s : Shared) (H : Hp) (E : XK), Room k (A.deeper (envOfC x (defScope st) s.heap.objs.size f cdv)) →
      PSs (cxOf (L2.CX P w) P w K mg base N x (defScope st) f cdv A outer s H E) (defBody st) (tS cls (fun c d _ H => E c d H) body)) {n : Nat} (hn : N.length - ps.length = n := by rfl) :
    Kept P w K mg base cls y ps dr (fnD n dr body) (k + 1) := by
  obtain ⟨f, fd, F, hm, hb⟩ := Fx
  refine ⟨f, fd, hm, F.kp, hb, F.okX S (fun vs H Q E h => h.1) fun cdv A outer s H vs Q E hr h => ?_⟩
  obtain ⟨hl, A1, live, nv, S1, us, ds, g, hv, hlive, Fi, r, h⟩ := h
  refine ⟨_, hd f cdv A outer s H E hr, ⟨A1, live, S1, H, 0, nv, false⟩, S1, (if dr = true then .dr :: ds.map .sh else ds.map .sh) ++ List.replicate n .no, g, start_good Fi hlive hv r (by rw [hl]; exact hn), ?_⟩
  unfold fnD at h
  cases eb : body ((if dr = true then .dr :: ds.map .sh else ds.map .sh) ++ List.replicate n .no) g with
  | nx ρ1 g1 => rw [eb] at h; exact fun σ' H' S' I' _ => h .non H' S' I'.toFin .non
  | rt d g1 => rw [eb] at h; exact fun v H' S' F' r' => h v H' S' F' r'
  | ex n ρ1 g1 => rw [eb] at h; exact fun σ' H' S' I' _ => h H' S' I'.toFin
  | bk ρ1 g1 => rw [eb] at h; exact False.elim h
  | ct ρ1 g1 => rw [eb] at h; exact False.elim h
  | bad => rw [eb] at h; exact h
end
end DL

set_option Elab.async false
set_option linter.all false
set_option maxRecDepth 100000
set_option maxHeartbeats 400000
/-! The data layer, part 26: shifts and bits of whole numbers from 0 on, sep.join(list of texts), int(text of 0 and 1, 2). -/
namespace DL
open PySem PySem.Spec PyProof.Rows L2
section
variable {X : Cx} {cls : Nat → Value} {W : WX} {pos : Pos} {a b o e : Expr} {fa fb : Ex}
def shlW : PyData → PyData → Option PyData
  | .int i, .int j => if 0 ≤ j ∧ (Builtin.Int.intBits i : Int) + j ≤ 2 ^ 27 then some (.int (i * 2 ^ j.toNat)) else none
  | _, _ => none
def shrD : PyData → PyData → Option PyData
  | .int i, .int j => if 0 ≤ j then some (.int (i / 2 ^ j.toNat)) else none
  | _, _ => none
def orD : PyData → PyData → Option PyData
  | .int i, .int j => if 0 ≤ i ∧ 0 ≤ j then some (.int ((i.toNat ||| j.toNat : Nat) : Int)) else none
  | _, _ => none
def andD : PyData → PyData → Option PyData
  | .int i, .int j => if 0 ≤ i ∧ j = 1 then some (.int (i % 2)) else none
  | _, _ => none
theorem spec_shlW : Spec2 (rI CShl fun i j => .int (i * 2 ^ j.toNat)) shlW := spec_i fun x y d e => by
  unfold shlW at e
  split at e
  · rename_i i j
    by_cases h : 0 ≤ j ∧ (Builtin.Int.intBits i : Int) + j ≤ 2 ^ 27
    · rw [if_pos h] at e; cases e; exact ⟨i, j, rfl, rfl, h, rfl⟩
    · rw [if_neg h] at e; cases e
  · cases e
theorem spec_shr : Spec2 (fun x y H Q => ∃ (i : Int) (k : Nat), x = .int i ∧ y = .int (k : Int) ∧ Q (.int (i / 2 ^ k)) H) shrD := by
  intro _ B σ H S ρ g x y d v u Q e I rx ry k
  cases x with
  | int i => cases y with
    | int j =>
      replace e : (if 0 ≤ j then some (PyData.int (i / 2 ^ j.toNat)) else none) = some d := e
      by_cases h : 0 ≤ j
      · rw [if_pos h] at e
        cases e
        cases rx
        cases ry
        exact ⟨i, j.toNat, rfl, by rw [Int.toNat_of_nonneg h], k _ H S I .refl (.int _)⟩
      · rw [if_neg h] at e; cases e
    | _ => cases e
  | _ => cases e
theorem spec_or : Spec2 (rI0 fun i j => .int (Builtin.bitOr i j)) orD := by
  intro _ B σ H S ρ g x y d v u Q e I rx ry k
  cases x with
  | int i => cases y with
    | int j =>
      replace e : (if 0 ≤ i ∧ 0 ≤ j then some (PyData.int ((i.toNat ||| j.toNat : Nat) : Int)) else none) = some d := e
      by_cases h : 0 ≤ i ∧ 0 ≤ j
      · rw [if_pos h] at e
        cases e
        cases rx
        cases ry
        exact ⟨i, j, rfl, rfl, by show Q (.int (Builtin.bitOr i j)) H; rw [bitOr_nn h.1 h.2]; exact k _ H S I .refl (.int _)⟩
      · rw [if_neg h] at e; cases e
    | _ => cases e
  | _ => cases e
theorem and_one {i : Int} (h : 0 ≤ i) : Builtin.bitAnd i 1 = i % 2 := by
  obtain ⟨n, rfl⟩ : ∃ n : Nat, i = (n : Int) := ⟨i.toNat, (Int.toNat_of_nonneg h).symm⟩
  rw [bitAnd_m1]
theorem spec_and : Spec2 (rI0 fun i j => .int (Builtin.bitAnd i j)) andD := by
  intro _ B σ H S ρ g x y d v u Q e I rx ry k
  cases x with
  | int i => cases y with
    | int j =>
      replace e : (if 0 ≤ i ∧ j = 1 then some (PyData.int (i % 2)) else none) = some d := e
      by_cases h : 0 ≤ i ∧ j = 1
      · rw [if_pos h] at e
        cases e
        cases rx
        cases ry
        obtain ⟨h0, rfl⟩ := h
        exact ⟨i, 1, rfl, rfl, by show Q (.int (Builtin.bitAnd i 1)) H; rw [and_one h0]; exact k _ H S I .refl (.int _)⟩
      · rw [if_neg h] at e; cases e
    | _ => cases e
  | _ => cases e
theorem pd_shlW (ha : PE X a (tE cls W fa)) (hb : PE X b (tE cls W fb)) : PE X (.BinOp a .LShift b pos) (tE cls W (opD shlW fa fb)) := pd_bin op_shlW spec_shlW ha hb
theorem pd_shr (ha : PE X a (tE cls W fa)) (hb : PE X b (tE cls W fb)) : PE X (.BinOp a .RShift b pos) (tE cls W (opD shrD fa fb)) := pd_bin op_shrN spec_shr ha hb
theorem pd_or_ (ha : PE X a (tE cls W fa)) (hb : PE X b (tE cls W fb)) : PE X (.BinOp a .BitOr b pos) (tE cls W (opD orD fa fb)) := pd_bin op_or spec_or ha hb
theorem pd_and_ (ha : PE X a (tE cls W fa)) (hb : PE X b (tE cls W fb)) : PE X (.BinOp a .BitAnd b pos) (tE cls W (opD andD fa fb)) := pd_bin op_and spec_and ha hb
def strsD : List PyData → Option (List Str)
  | [] => some []
  | .str s :: r => (strsD r).map (s :: ·)
  | _ :: _ => none
theorem strsD_eq : ∀ {ds : List PyData} {ys : List Str}, strsD ds = some ys → ds = ys.map PyData.str
  | [], ys, e => by cases e; rfl
  | d :: ds, ys, e => by
    cases d with
    | str s =>
      simp only [strsD] at e
      obtain ⟨r, hr, rfl⟩ := Option.map_eq_some_iff.mp e
      rw [strsD_eq hr]; rfl
    | _ => cases e
theorem strsD_map : ∀ ys : List Str, strsD (ys.map PyData.str) = some ys
  | [] => rfl
  | s :: r => by simp [strsD, strsD_map r]
theorem Rps.strs {S : Hp} : ∀ {ys : List Str} {vs : List V}, Rps S vs (ys.map PyData.str) → vs = ys.map V.str
  | [], _, .nil => rfl
  | s :: ys, _, .cons r t => by cases r; rw [Rps.strs t]; rfl
def joinD : PyData → PyData → Option PyData
  | .str a, .list ds => (strsD ds).bind fun ys => if (ys.map (·.length)).sum + ys.length * a.length ≤ 16777216 then some (.str (Txt.join a ys)) else none
  | _, _ => none
@[simp] def joinE (fa fb : Ex) : Ex := fun ρ g => (fa ρ g).bind fun x g1 => match x with
  | .str s => (fb ρ g1).bind fun y g2 => ofO (joinD (.str s) y) g2
  | _ => .bad
theorem pd_join {apos : Pos} (ho : PE X o (tE cls W fa)) (he : PE X e (tE cls W fb)) (hs : starEach [e] X.env = [(false, eval e X.env)] := by rfl) (hbase : attributeBase o "join" X.env (eval o X.env) = eval o X.env := by rfl) (hline : (apos.endLine == pos.line) = true := by rfl) :
    PE X (.Call (.Attribute o "join" apos) [e] [] pos) (tE cls W (joinE fa fb)) :=
  PE_imp (pe_join ho he hs hbase hline) fun σ H Q ⟨B, S, ρ, g, I, h⟩ => by
    unfold joinE at h
    refine ⟨B, S, ρ, g, I, ?_⟩
    cases ea : fa ρ g with
    | bad => rw [ea] at h; exact h
    | ex n g1 => rw [ea] at h; exact h
    | ok x g1 =>
      rw [ea] at h
      simp only [R.bind_ok] at h
      cases x with
      | str s =>
        intro v H1 S1 I1 e1 r1
        cases r1
        refine ⟨⟨s, rfl⟩, B, S1, ρ, g1, I1, ?_⟩
        have h' := EO_gr e1 h
        cases eb : fb ρ g1 with
        | bad => rw [eb] at h'; exact h'
        | ex n g2 => rw [eb] at h'; exact h'
        | ok y g2 =>
          rw [eb] at h'
          simp only [R.bind_ok] at h'
          intro u H2 S2 I2 e2 r2
          have h2 := EO_gr e2 h'
          cases ej : joinD (.str s) y with
          | none => rw [ej] at h2; exact False.elim h2
          | some d =>
            rw [ej] at h2
            cases y with
            | list ds =>
              replace ej : ((strsD ds).bind fun ys => if (ys.map (·.length)).sum + ys.length * s.length ≤ 16777216 then some (PyData.str (Txt.join s ys)) else none) = some d := ej
              cases es : strsD ds with
              | none => rw [es] at ej; cases ej
              | some ys =>
                rw [es] at ej
                simp only [Option.bind_some] at ej
                by_cases hl : (ys.map (·.length)).sum + ys.length * s.length ≤ 16777216
                · rw [if_pos hl] at ej
                  cases ej
                  cases r2 with
                  | @lst p xs _ hp q =>
                    rw [strsD_eq es] at q
                    have := Rps.strs q
                    subst this
                    exact ⟨s, p, ys, rfl, rfl, .inl (.of (I2.sub _ _ hp)), hl, h2 _ H2 S2 I2 .refl (.str _)⟩
                · rw [if_neg hl] at ej; cases ej
            | _ => cases ej
      | _ => exact False.elim h
end
end DL

set_option Elab.async false
set_option linter.all false
set_option maxRecDepth 100000
set_option maxHeartbeats 400000
/-! The data layer, part 27: the order of data at any depth: <, >, <=, >=; min, max; sorted. -/
namespace DL
open PySem PySem.Spec PyProof.Rows L2
variable {cls : Nat → Value}
/-- may be compared -/
def okC (x y : PyData) : Bool := x.canLay0 && y.canLay0 && PySem.W.alike x y && !(match x with | .none => true | _ => false) && decide (x.depth ≤ 10) && decide (y.depth ≤ 10)
def ltDD (x y : PyData) : Option PyData := if okC x y = true then some (.bool (PySem.W.dataLt x y)) else none
def gtDD (x y : PyData) : Option PyData := if okC x y = true then some (.bool (PySem.W.dataLt y x)) else none
def leDD (x y : PyData) : Option PyData := if okC x y = true then some (.bool (!PySem.W.dataLt y x)) else none
def geDD (x y : PyData) : Option PyData := if okC x y = true then some (.bool (!PySem.W.dataLt x y)) else none
def rCmpD (K : PySem.W.Frag) (f : PyData → PyData → Bool) : R2 := fun x y H Q => ∃ d e, Dp K H x d ∧ Dp K H y e ∧ PySem.W.alike d e = true ∧ d ≠ .none ∧ d.depth ≤ 10 ∧ Q (.bl (f d e)) H
theorem okC_of {x y : PyData} (h : okC x y = true) : x.canLay0 = true ∧ y.canLay0 = true ∧ PySem.W.alike x y = true ∧ x ≠ .none ∧ x.depth ≤ 10 := by
  unfold okC at h
  simp only [Bool.and_eq_true, Bool.not_eq_true', decide_eq_true_eq] at h
  obtain ⟨⟨⟨⟨⟨a, b⟩, c⟩, d⟩, e⟩, _⟩ := h
  exact ⟨a, b, c, (fun z => by rw [z] at d; cases d), e⟩
theorem specCmp {K : PySem.W.Frag} {f : PyData → PyData → Bool} {o : PyData → PyData → Option PyData} (ho : ∀ x y, o x y = if okC x y = true then some (.bool (f x y)) else none) : Spec2 (rCmpD K f) o := by
  intro _ B σ H S ρ g x y d v u Q e I rx ry k
  rw [ho] at e
  by_cases h : okC x y = true
  · rw [if_pos h] at e
    cases e
    obtain ⟨a, b, c, n, dp⟩ := okC_of h
    exact ⟨x, y, Rp.dp I.sub a rx, Rp.dp I.sub b ry, c, n, dp, k _ H S I .refl (.bl _)⟩
  · rw [if_neg h] at e; cases e
section
variable {X : Cx}
theorem op_ltDD (hu : X.A.units + 64 < cLine) : OpR X (compareOp .Lt) (rCmpD X.K PySem.W.dataLt) := by
  intro pins s σ H x y v u Q I rx ry h
  obtain ⟨d, e, hd, he, ha, hn, hdp, q⟩ := h
  obtain ⟨as, r1⟩ := Dp.reads I d x v hd rx
  obtain ⟨bs, r2⟩ := Dp.reads I e y u he ry
  exact PySem.W.lt_data r1 r2 ha hn (by omega) ⟨.bl _, H, I, rfl, q⟩
theorem op_gtDD (hu : X.A.units + 64 < cLine) : OpR X (compareOp .Gt) (rCmpD X.K fun x y => PySem.W.dataLt y x) := by
  intro pins s σ H x y v u Q I rx ry h
  obtain ⟨d, e, hd, he, ha, hn, hdp, q⟩ := h
  obtain ⟨as, r1⟩ := Dp.reads I d x v hd rx
  obtain ⟨bs, r2⟩ := Dp.reads I e y u he ry
  exact PySem.W.gt_data r1 r2 ha hn (by omega) ⟨.bl _, H, I, rfl, q⟩
theorem op_leDD (hu : X.A.units + 64 < cLine) : OpR X (compareOp .LtE) (rCmpD X.K fun x y => !PySem.W.dataLt y x) := by
  intro pins s σ H x y v u Q I rx ry h
  obtain ⟨d, e, hd, he, ha, hn, hdp, q⟩ := h
  obtain ⟨as, r1⟩ := Dp.reads I d x v hd rx
  obtain ⟨bs, r2⟩ := Dp.reads I e y u he ry
  exact PySem.W.le_data r1 r2 ha hn (by omega) ⟨.bl _, H, I, rfl, q⟩
theorem op_geDD (hu : X.A.units + 64 < cLine) : OpR X (compareOp .GtE) (rCmpD X.K fun x y => !PySem.W.dataLt x y) := by
  intro pins s σ H x y v u Q I rx ry h
  obtain ⟨d, e, hd, he, ha, hn, hdp, q⟩ := h
  obtain ⟨as, r1⟩ := Dp.reads I d x v hd rx
  obtain ⟨bs, r2⟩ := Dp.reads I e y u he ry
  exact PySem.W.ge_data r1 r2 ha hn (by omega) ⟨.bl _, H, I, rfl, q⟩
variable {k : Nat}
theorem c_ltD (hr : Room k X.A) : Cmp X .Lt ltDD := ⟨_, op_ltDD (hu64 hr), specCmp fun _ _ => rfl⟩
theorem c_gtD (hr : Room k X.A) : Cmp X .Gt gtDD := ⟨_, op_gtDD (hu64 hr), specCmp fun _ _ => rfl⟩
theorem c_leD (hr : Room k X.A) : Cmp X .LtE leDD := ⟨_, op_leDD (hu64 hr), specCmp fun _ _ => rfl⟩
theorem c_geD (hr : Room k X.A) : Cmp X .GtE geDD := ⟨_, op_geDD (hu64 hr), specCmp fun _ _ => rfl⟩
end
/-! min, max, sorted of a list or a tuple of data that may be compared with one another -/
def okL (ds : List PyData) : Bool := ds.all fun x => ds.all fun y => okC x y
theorem okL_of {ds : List PyData} (h : okL ds = true) : PyData.canLayAll0 ds = true ∧ (∀ x ∈ ds, ∀ y ∈ ds, PySem.W.alike x y = true) ∧ (∀ x ∈ ds, x ≠ .none) ∧ (∀ x ∈ ds, x.depth ≤ 10) ∧ PyData.depthAll ds ≤ 10 := by
  unfold okL at h
  have h1 : ∀ x ∈ ds, ∀ y ∈ ds, okC x y = true := fun x hx y hy => List.all_eq_true.mp (List.all_eq_true.mp h x hx) y hy
  have h2 : ∀ x ∈ ds, x.canLay0 = true ∧ x ≠ .none ∧ x.depth ≤ 10 := fun x hx => by
    obtain ⟨a, _, _, n, d⟩ := okC_of (h1 x hx x hx)
    exact ⟨a, n, d⟩
  refine ⟨?_, fun x hx y hy => (okC_of (h1 x hx y hy)).2.2.1, fun x hx => (h2 x hx).2.1, fun x hx => (h2 x hx).2.2, ?_⟩
  · clear h h1
    induction ds with
    | nil => simp [PyData.canLayAll0]
    | cons d r ih => simp [PyData.canLayAll0, (h2 d List.mem_cons_self).1, ih fun x hx => h2 x (List.mem_cons_of_mem _ hx)]
  · clear h h1
    induction ds with
    | nil => simp [PyData.depthAll]
    | cons d r ih =>
      have a := (h2 d List.mem_cons_self).2.2
      have b := ih fun x hx => h2 x (List.mem_cons_of_mem _ hx)
      simp only [PyData.depthAll]
      omega
def minDD : PyData → Option PyData
  | .list (x :: xs) => if okL (x :: xs) = true then some (PySem.W.minD x xs) else none
  | .tuple (x :: xs) => if okL (x :: xs) = true then some (PySem.W.minD x xs) else none
  | _ => none
def maxDD : PyData → Option PyData
  | .list (x :: xs) => if okL (x :: xs) = true then some (PySem.W.maxD x xs) else none
  | .tuple (x :: xs) => if okL (x :: xs) = true then some (PySem.W.maxD x xs) else none
  | _ => none
theorem fold_mem (p : PyData → PyData → Bool) : ∀ (xs : List PyData) (x : PyData), xs.foldl (fun a y => if p a y = true then y else a) x ∈ x :: xs
  | [], x => List.mem_cons_self
  | y :: r, x => by
    rw [List.foldl_cons]
    rcases List.mem_cons.mp (fold_mem p r (if p x y = true then y else x)) with h | h
    · rw [h]
      split
      · exact List.mem_cons_of_mem _ List.mem_cons_self
      · exact List.mem_cons_self
    · exact List.mem_cons_of_mem _ (List.mem_cons_of_mem _ h)
theorem minD_mem (x : PyData) (xs : List PyData) : PySem.W.minD x xs ∈ x :: xs := fold_mem (fun a y => PySem.W.dataLt y a) xs x
theorem maxD_mem (x : PyData) (xs : List PyData) : PySem.W.maxD x xs ∈ x :: xs := fold_mem (fun a y => PySem.W.dataLt a y) xs x
/-- one of the things at a place, told by its datum -/
def rPick (K : PySem.W.Frag) (f : PyData → List PyData → PyData) : List V → Hp → VK → Prop := fun vs H Q => ∃ (a : Addr) (ys : List V) (x : PyData) (xs : List PyData), vs = [V.ref a] ∧ (SqL K H a ys ∨ SqT K H a ys) ∧ DpAll K H ys (x :: xs) ∧
  (∀ y ∈ x :: xs, ∀ z ∈ x :: xs, PySem.W.alike y z = true) ∧ (∀ y ∈ x :: xs, y ≠ .none) ∧ PyData.depthAll (x :: xs) ≤ 10 ∧ ∀ (i : Nat) (v : V), ys[i]? = some v → (x :: xs)[i]? = some (f x xs) → Q v H
section
variable {X : Cx}
theorem pick_fin {pins : List (Addr × Obj)} {σ : L2.St} {H : Hp} {s : Shared} {h' : Heap} {tk : Nat} {Q : VK} {ys : List V} {its : List Value} {ds : List PyData} {m : PyData} {as bs : List Addr} {i : Nat} {v : Value} (I : Inv X pins σ H s) (rv : Vals ys its) (hr : ReadsAll s.heap its ds as) (al : ∀ y ∈ ds, ∀ z ∈ ds, PySem.W.alike y z = true) (hm : m ∈ ds)
    (hi : its[i]? = some v) (hv : Reads h' v m bs) (hk : ∀ b o, s.heap.get? b = some o → h'.get? b = some o) (q : ∀ (i : Nat) (v : V), ys[i]? = some v → ds[i]? = some m → Q v H) : ∃ x H', Inv X pins σ H' { s with heap := h', toks := tk } ∧ RelV x v ∧ Q x H' := by
  have hl : i < its.length := (List.getElem?_eq_some_iff.mp hi).1
  have hyl := rv.length
  have hdl := PySem.SeqAt.ReadsAll.length _ _ _ hr
  have e1 : ys[i]? = some ys[i] := List.getElem?_eq_getElem (by omega)
  obtain ⟨u, hu, ru⟩ := rv.get e1
  rw [hi] at hu
  cases hu
  obtain ⟨cs, r1, h2, r3, r4⟩ := PySem.W.readsAll_at hr i v hi
  have e2 : ds[i]? = some ds[i] := List.getElem?_eq_getElem (by omega)
  have e3 : ds.getD i .none = ds[i] := by rw [List.getD_eq_getElem?_getD, e2]; rfl
  rw [e3] at r1
  have r1' := PyProof.Rows.Reads.keeps hk r1
  have e4 := PySem.W.alike_unique _ _ _ _ _ (al _ (List.getElem_mem (by omega)) _ hm) r1' hv
  exact ⟨ys[i], H, I.kept hk, ru, q i _ e1 (by rw [e2, e4])⟩
theorem cr_minDD (hc : X.calm = true) (hu : X.A.units + 64 < cLine) : CallR X (.builtin "min") (rPick X.K PySem.W.minD) := by
  intro pins s σ H vs us Q I r h
  obtain ⟨a, ys, x, xs, rfl, hs, hd, al, nn, dp, q⟩ := h
  rw [Vals.ref1 r]
  rcases hs with hs | hs
  · obtain ⟨its, rv, hl, _⟩ := I.list hs
    obtain ⟨as, hr⟩ := Dp.readsAll I _ _ _ hd rv
    exact PySem.W.min_list_data (I.ok.hd hc) hl.isList (by simpa using hr) ⟨al, nn⟩ (by omega) fun i v h' tk bs e1 e2 e3 => pick_fin I rv hr al (minD_mem x xs) (by simpa using e1) e2 e3 q
  · obtain ⟨its, rv, hl, _⟩ := I.tuple hs
    obtain ⟨as, hr⟩ := Dp.readsAll I _ _ _ hd rv
    exact PySem.W.min_tuple_data (I.ok.hd hc) hl (by simpa using hr) ⟨al, nn⟩ (by omega) fun i v h' tk bs e1 e2 e3 => pick_fin I rv hr al (minD_mem x xs) (by simpa using e1) e2 e3 q
theorem cr_maxDD (hc : X.calm = true) (hu : X.A.units + 64 < cLine) : CallR X (.builtin "max") (rPick X.K PySem.W.maxD) := by
  intro pins s σ H vs us Q I r h
  obtain ⟨a, ys, x, xs, rfl, hs, hd, al, nn, dp, q⟩ := h
  rw [Vals.ref1 r]
  rcases hs with hs | hs
  · obtain ⟨its, rv, hl, _⟩ := I.list hs
    obtain ⟨as, hr⟩ := Dp.readsAll I _ _ _ hd rv
    exact PySem.W.max_list_data (I.ok.hd hc) hl.isList (by simpa using hr) ⟨al, nn⟩ (by omega) fun i v h' tk bs e1 e2 e3 => pick_fin I rv hr al (maxD_mem x xs) (by simpa using e1) e2 e3 q
  · obtain ⟨its, rv, hl, _⟩ := I.tuple hs
    obtain ⟨as, hr⟩ := Dp.readsAll I _ _ _ hd rv
    exact PySem.W.max_tuple_data (I.ok.hd hc) hl (by simpa using hr) ⟨al, nn⟩ (by omega) fun i v h' tk bs e1 e2 e3 => pick_fin I rv hr al (maxD_mem x xs) (by simpa using e1) e2 e3 q
end
theorem sp_pick {K : PySem.W.Frag} {f : PyData → List PyData → PyData} {o : PyData → Option PyData} (ho : ∀ x d, o x = some d → ∃ y ys, (x = .list (y :: ys) ∨ x = .tuple (y :: ys)) ∧ okL (y :: ys) = true ∧ d = f y ys) : Spec1c (rPick K f) o := fun _ B σ H S ρ g x d v Q e I r k => by
  obtain ⟨y, ys, hx, ok, rfl⟩ := ho x d e
  obtain ⟨c, al, nn, _, dp⟩ := okL_of ok
  have fin : ∀ (xs : List V), Rps S xs (y :: ys) → ∀ (i : Nat) (v : V), xs[i]? = some v → (y :: ys)[i]? = some (f y ys) → Q v H := fun xs q i v e1 e2 => by
    obtain ⟨d', e3, r3⟩ := Rps.get q e1
    rw [e2] at e3
    cases e3
    exact k v H S I .refl r3
  rcases hx with rfl | rfl
  · cases r with
    | @lst a xs _ h q => exact ⟨a, xs, y, ys, rfl, .inl (.of (I.sub _ _ h)), Rps.dp I.sub c q, al, nn, dp, fin xs q⟩
  · cases r with
    | @tup a xs _ h q => exact ⟨a, xs, y, ys, rfl, .inr (.of (I.sub _ _ h)), Rps.dp I.sub c q, al, nn, dp, fin xs q⟩
theorem sp_minDD {K : PySem.W.Frag} : Spec1c (rPick K PySem.W.minD) minDD := sp_pick fun x d e => by
  unfold minDD at e
  split at e
  · rename_i y ys
    by_cases h : okL (y :: ys) = true
    · rw [if_pos h] at e; cases e; exact ⟨y, ys, .inl rfl, h, rfl⟩
    · rw [if_neg h] at e; cases e
  · rename_i y ys
    by_cases h : okL (y :: ys) = true
    · rw [if_pos h] at e; cases e; exact ⟨y, ys, .inr rfl, h, rfl⟩
    · rw [if_neg h] at e; cases e
  · cases e
theorem sp_maxDD {K : PySem.W.Frag} : Spec1c (rPick K PySem.W.maxD) maxDD := sp_pick fun x d e => by
  unfold maxDD at e
  split at e
  · rename_i y ys
    by_cases h : okL (y :: ys) = true
    · rw [if_pos h] at e; cases e; exact ⟨y, ys, .inl rfl, h, rfl⟩
    · rw [if_neg h] at e; cases e
  · rename_i y ys
    by_cases h : okL (y :: ys) = true
    · rw [if_pos h] at e; cases e; exact ⟨y, ys, .inr rfl, h, rfl⟩
    · rw [if_neg h] at e; cases e
  · cases e
section
variable {X : Cx} {W : WX} {pos : Pos} {a : Expr} {fa : Ex} {k : Nat}
theorem pd_maxDD {p : Pos} (hr : Room k X.A) (hc : X.calm = true) (hm : X.mg "max" = none) (ha : PE X a (tE cls W fa)) (hg : Gl X "max" := by rfl) (hs : starEach [a] X.env = (false, eval a X.env) :: starEach [] X.env := by rfl) : PE X (.Call (.Name "max" p) [a] [] pos) (tE cls W (unD maxDD fa)) :=
  pd_call1B (cr_maxDD hc (hu64 hr)) sp_maxDD hm boot_max ha hg (by decide) (by decide) hs
theorem pd_minDD {p : Pos} (hr : Room k X.A) (hc : X.calm = true) (hm : X.mg "min" = none) (ha : PE X a (tE cls W fa)) (hg : Gl X "min" := by rfl) (hs : starEach [a] X.env = (false, eval a X.env) :: starEach [] X.env := by rfl) : PE X (.Call (.Name "min" p) [a] [] pos) (tE cls W (unD minDD fa)) :=
  pd_call1B (cr_minDD hc (hu64 hr)) sp_minDD hm boot_min ha hg (by decide) (by decide) hs
end
/-! sorted -/
def tupB (ds : List PyData) : Bool := ds.all fun d => match d with
  | .tuple (_ :: _) => true
  | _ => false
def othB (ds : List PyData) : Bool := ds.all fun d => match d with
  | .none => false
  | .tuple _ => false
  | _ => true
theorem sortable_of {ds : List PyData} (h : (tupB ds || othB ds) = true) : PySem.W.Sortable ds := by
  rcases (Bool.or_eq_true _ _).mp h with h | h
  · refine .inl fun d hd => ?_
    have := List.all_eq_true.mp h d hd
    split at this
    · rename_i x r; exact ⟨_, _, rfl⟩
    · cases this
  · refine .inr fun d hd => ?_
    have := List.all_eq_true.mp h d hd
    split at this
    · cases this
    · cases this
    · rename_i h1 h2
      exact ⟨fun z => h1 z, fun xs z => h2 xs z⟩
def srtD (ds : List PyData) : List PyData := ds.mergeSort (PySem.W.dataLe false id)
def rSortDD (K : PySem.W.Frag) : List V → Hp → VK → Prop := fun vs H Q => ∃ (a : Addr) (ys : List V) (ds : List PyData), vs = [V.ref a] ∧ SqL K H a ys ∧ DpAll K H ys ds ∧ PySem.W.AllAlike ds ∧ PySem.W.Sortable ds ∧ (∀ d ∈ ds, d.depth ≤ 10) ∧
  ∀ (zs : List (V × PyData)) (p : Addr), zs.Perm (ys.zip ds) → zs.map (·.2) = srtD ds → H p = none → Q (.ref p) (upd H p (.lst (zs.map (·.1))))
section
variable {X : Cx}
theorem zip_fst {α β : Type} : ∀ {as : List α} {bs : List β}, as.length = bs.length → (as.zip bs).map (·.1) = as
  | [], [], _ => rfl
  | a :: as, b :: bs, h => by simp [zip_fst (as := as) (bs := bs) (by simpa using h)]
theorem zip_snd {α β : Type} : ∀ {as : List α} {bs : List β}, as.length = bs.length → (as.zip bs).map (·.2) = bs
  | [], [], _ => rfl
  | a :: as, b :: bs, h => by simp [zip_snd (as := as) (bs := bs) (by simpa using h)]
theorem dpAll_len {K : PySem.W.Frag} {H : Hp} : ∀ {vs : List V} {ds : List PyData}, DpAll K H vs ds → vs.length = ds.length
  | _, _, .nil => rfl
  | _, _, .cons _ t => by rw [List.length_cons, List.length_cons, dpAll_len t]
theorem each_zip {pins : List (Addr × Obj)} {σ : L2.St} {H : Hp} {s : Shared} (I : Inv X pins σ H s) : ∀ {ys : List V} {ds : List PyData} {its : List Value}, Vals ys its → DpAll X.K H ys ds →
    PySem.W.EachIs (fun (v : Value) (b : V × PyData) => RelV b.1 v) its (ys.zip ds) ∧ PySem.W.EachIs (fun (v : Value) (b : V × PyData) => ∃ as, Reads s.heap v b.2 as) its (ys.zip ds)
  | _, _, _, .nil, .nil => ⟨.nil, .nil⟩
  | _, _, _, .cons r t, .cons d e => by
    obtain ⟨h1, h2⟩ := each_zip I t e
    exact ⟨.cons r h1, .cons (Dp.reads I _ _ _ d r) h2⟩
theorem vals_each : ∀ {its : List Value} {zs : List (V × PyData)}, PySem.W.EachIs (fun (v : Value) (b : V × PyData) => RelV b.1 v) its zs → Vals (zs.map (·.1)) its
  | _, _, .nil => .nil
  | _, _, .cons r t => .cons r (vals_each t)
theorem cr_sortDD (hu : X.A.units + 64 < cLine) : CallR X (.builtin "sorted") (rSortDD X.K) := by
  intro pins s σ H vs us Q I r h
  obtain ⟨a, ys, ds, rfl, hs, hd, al, so, dp, q⟩ := h
  obtain ⟨its, rv, hl, hz⟩ := I.list hs
  rw [Vals.ref1 r]
  obtain ⟨e1, e2⟩ := each_zip I rv hd
  have hlen := dpAll_len hd
  have m2 : (ys.zip ds).map (·.2) = ds := zip_snd hlen
  have mm : ((ys.zip ds).mergeSort (PySem.W.dataLe false Prod.snd)).map (·.2) = srtD ds := by
    have z := List.map_mergeSort (f := fun x : V × PyData => x.2) (r := PySem.W.dataLe false Prod.snd) (s := PySem.W.dataLe false id) (l := ys.zip ds) (fun x _ y _ => rfl)
    rw [m2] at z
    exact z
  have zl : (ys.zip ds).length = ys.length := by rw [List.length_zip]; omega
  refine PySem.W.sorted_data (enc := Prod.snd) hl.isList e1 e2 (by rw [m2]; exact al) (by rw [m2]; exact so) (by rw [zl]; exact hz) (fun b hb => by
    have := dp b.2 (by rw [← m2]; exact List.mem_map.mpr ⟨b, hb, rfl⟩)
    omega) fun out h1 h2 => ?_
  obtain ⟨ep, he'⟩ := PyProof.Rows.sortedAll_at s.heap its out.toArray
  have hperm := List.mergeSort_perm (ys.zip ds) (PySem.W.dataLe false Prod.snd)
  have hll : (((ys.zip ds).mergeSort (PySem.W.dataLe false Prod.snd)).map (·.1)).length ≤ sizeLine := by rw [List.length_map, hperm.length_eq, zl]; exact hz
  exact ⟨.ref _, upd H (s.heap.objs.size + 1) (.lst (((ys.zip ds).mergeSort (PySem.W.dataLe false Prod.snd)).map (·.1))), I.laid (t' := s.toks) (fun _ _ => PyProof.Rows.sortedAll_old) (Nat.le_succ _) ⟨hll, out, ep, vals_each h2, he'⟩, rfl, q _ _ hperm mm (I.hok.fresh (Nat.le_succ _))⟩
end
def sortDO (f : Ex) : Ow := fun ρ g => (f ρ g).bind fun x g1 => match x with
  | .list ds => if okL ds = true ∧ (tupB ds || othB ds) = true then .ok (.lst (srtD ds)) g1 else .bad
  | _ => .bad
theorem rps_zip {S : Hp} : ∀ {xs : List V} {ds : List PyData}, Rps S xs ds → ∀ b ∈ xs.zip ds, Rp S b.1 b.2
  | _, _, .nil, b, h => by cases h
  | _, _, .cons r t, b, h => by
    rw [List.zip_cons_cons] at h
    rcases List.mem_cons.mp h with rfl | h
    · exact r
    · exact rps_zip t b h
theorem rps_of_all {S : Hp} : ∀ {zs : List (V × PyData)}, (∀ b ∈ zs, Rp S b.1 b.2) → Rps S (zs.map (·.1)) (zs.map (·.2))
  | [], _ => .nil
  | b :: r, h => .cons (h b List.mem_cons_self) (rps_of_all fun z hz => h z (List.mem_cons_of_mem _ hz))
section
variable {X : Cx} {W : WX} {pos : Pos} {a : Expr} {fa : Ex} {k : Nat}
theorem po_sortD {p : Pos} (hr : Room k X.A) (hm : X.mg "sorted" = none) (ha : PE X a (tE cls W fa)) (hg : Gl X "sorted" := by rfl) (hs : starEach [a] X.env = (false, eval a X.env) :: starEach [] X.env := by rfl) (hpl : (backTo pos (starEach [] X.env)).any (·.1) = false := by rfl) : PE X (.Call (.Name "sorted" p) [a] [] pos) (tO cls W (sortDO fa)) :=
  PE_imp (pe_callB (cr_sortDD (hu64 hr)) hg hm PyProof.Rows.boot_sorted (pa_cons ha pa_nil hs) (by decide) (by decide) hs hpl) fun σ H Q ⟨B, S, ρ, g, I, h⟩ => by
    unfold sortDO at h
    refine ⟨B, S, ρ, g, I, ?_⟩
    cases ea : fa ρ g with
    | bad => rw [ea] at h; exact h
    | ex n g1 => rw [ea] at h; exact h
    | ok x g1 =>
      rw [ea] at h
      simp only [R.bind_ok] at h
      intro v H1 S1 I1 e1 r1
      cases r1 with
      | @lst b xs ds hb q =>
        by_cases hz : okL ds = true ∧ (tupB ds || othB ds) = true
        · simp only [if_pos hz] at h
          obtain ⟨c, al, nn, dp, _⟩ := okL_of hz.1
          refine ⟨b, xs, ds, rfl, .of (I1.sub _ _ hb), Rps.dp I1.sub c q, al, sortable_of hz.2, dp, fun zs l hp hm hl => ?_⟩
          have rz : Rps S1 (zs.map (·.1)) (srtD ds) := by
            rw [← hm]
            exact rps_of_all fun z hz => rps_zip q z (hp.mem_iff.mp hz)
          obtain ⟨I2, e2⟩ := I1.allocO (o := .lst (zs.map (·.1))) hl
          exact h l _ _ _ I2 (e1.trans e2) (I1.stay hl) (none_back e1 hl) upd_same (.lst rz)
        · simp only [if_neg hz] at h; exact False.elim h
      | _ => exact False.elim h
end
end DL

set_option Elab.async false
set_option linter.all false
set_option maxRecDepth 100000
set_option maxHeartbeats 400000
/-! The data layer, part 28: dicts of one's own whose keys are tuples of data. -/
namespace DL
open PySem PySem.Spec PyProof.Rows L2
variable {cls : Nat → Value}
def putND (kvs : List (PyData × PyData)) (y d : PyData) (k : NestedKey) : List (PyData × PyData) := if (kvs.any fun kv => decide (nkD kv.1 = some k)) = true then kvs.map (fun kv => if nkD kv.1 = some k then (kv.1, d) else kv) else kvs ++ [(y, d)]
def delND (kvs : List (PyData × PyData)) (k : NestedKey) : List (PyData × PyData) := kvs.filter fun kv => decide (nkD kv.1 ≠ some k)
theorem Rpn.repl {S : Hp} {k : NestedKey} {v : V} {d : PyData} (hv : Rp S v d) : ∀ {kvs : List (PyData × PyData)} {xs : List NRow}, Rpn S xs kvs → Rpn S (xs.map fun x => if x.1 = k then (x.1, x.2.1, v) else x) (kvs.map fun kv => if nkD kv.1 = some k then (kv.1, d) else kv)
  | _, _, .nil => .nil
  | _, _, @Rpn.cons _ k' b v' e d' xs kvs hk hd hc hb hv' t => by
    rw [List.map_cons, List.map_cons]
    by_cases h : k' = k
    · have h' : nkD e = some k := by rw [hk, h]
      rw [if_pos h, if_pos h']
      exact .cons hk hd hc hb hv (Rpn.repl hv t)
    · have h' : ¬ nkD e = some k := by rw [hk]; simpa using h
      rw [if_neg h, if_neg h']
      exact .cons hk hd hc hb hv' (Rpn.repl hv t)
theorem Rpn.snoc {S : Hp} {k : NestedKey} {b : Addr} {v : V} {e d : PyData} (hk : nkD e = some k) (hd : k.depth ≤ 8) (hc : e.canLay0 = true) (hb : Rp S (.ref b) e) (hv : Rp S v d) : ∀ {kvs : List (PyData × PyData)} {xs : List NRow}, Rpn S xs kvs → Rpn S (xs ++ [(k, b, v)]) (kvs ++ [(e, d)])
  | _, _, .nil => .cons hk hd hc hb hv .nil
  | _, _, .cons a1 a2 a3 a4 a5 t => .cons a1 a2 a3 a4 a5 (Rpn.snoc hk hd hc hb hv t)
theorem Rpn.put {S : Hp} {kvs : List (PyData × PyData)} {xs : List NRow} (r : Rpn S xs kvs) {k : NestedKey} {b : Addr} {v : V} {e d : PyData} (hk : nkD e = some k) (hd : k.depth ≤ 8) (hc : e.canLay0 = true) (hb : Rp S (.ref b) e) (hv : Rp S v d) : Rpn S (putN xs k b v) (putND kvs e d k) := by
  unfold putN putND
  rcases Rpn.at k r with ⟨_, e2, e3⟩ | ⟨_, _, _, e2, _, e3⟩
  · rw [e2, e3]
    exact r.snoc hk hd hc hb hv
  · rw [e2, e3]
    exact r.repl hv
theorem Rpn.del {S : Hp} {k : NestedKey} : ∀ {kvs : List (PyData × PyData)} {xs : List NRow}, Rpn S xs kvs → Rpn S (delN xs k) (delND kvs k)
  | _, _, .nil => .nil
  | _, _, @Rpn.cons _ k' b v' e d' xs kvs hk hd hc hb hv' t => by
    have ih := Rpn.del (k := k) t
    unfold delN delND at ih ⊢
    by_cases h : k' = k
    · rw [List.filter_cons_of_neg (by simp [h]), List.filter_cons_of_neg (by simp [hk, h])]
      exact ih
    · rw [List.filter_cons_of_pos (by simp [h]), List.filter_cons_of_pos (by simp [hk, h])]
      exact .cons hk hd hc hb hv' ih
section
variable {X : Cx} {cls : Nat → Value} {W : WX} {pos : Pos} {a b e f : Expr} {fa fb fe ff : Ex} {D : Ends} {σ : L2.St} {H : Hp} {j : Nat} {st : Stmt} {rest : List Stmt}
/-- {} -/
@[simp] def dictNO : Ow := fun _ g => .ok (.nd []) g
theorem po_dictN : PE X (.Dict [] [] pos) (tO cls W dictNO) := PE_imp pe_dnewN fun σ H Q ⟨B, S, ρ, g, I, h⟩ => by
  intro p hp
  obtain ⟨I2, e2⟩ := I.allocO (o := NdO p []) hp
  exact h p _ _ _ I2 e2 (I.stay hp) hp upd_same (.nd .nil)
/-- x[e] = v -/
def sDPutN (td ty tv : TE) (K : PySem.W.Frag) : TS := fun D σ H => tv σ H fun v H1 => td σ H1 fun x H2 => ty σ H2 fun y H3 => ∃ a b xs k, x = .ref a ∧ y = .ref b ∧ H3 a = some (NdO a xs) ∧ (∀ r ∈ xs, KeyAt K H3 r.1 r.2.1) ∧ KeyAt K H3 k b ∧ plainK k = true ∧ xs.length < sizeLine ∧ D.nx σ (upd H3 a (NdO a (putN xs k b v)))
theorem ps_dputN {o i value : Expr} {pos' : Pos} {td ty tv : TE} (hu : X.A.units + 16 < cLine) (ho : PE X o td) (hi : PE X i ty) (hv : PE X value tv) (hs : swapsWith value (some (.Subscript o i pos')) pos.line X.env = pure false) :
    PS X (.Assign [.Subscript o i pos'] value pos) (sDPutN td ty tv X.K) := by
  refine ⟨fun pins s σ H D I h => ?_⟩
  refine wpAny_Assign_Subscript (thn (hv.run pins s σ H _ I h) fun r s1 ⟨v, H1, I1, rv, q1⟩ => thn (ho.run pins s1 σ H1 _ I1 q1) fun u s2 ⟨x, H2, I2, rx, q2⟩ => thn (hi.run pins s2 σ H2 _ I2 q2) fun iv s3 ⟨y, H3, I3, ry, a, b, xs, k, ex, ey, e, hk, kb, pk, hz, q3⟩ => ?_) hs
  subst ex ey
  obtain rfl : u = Value.ref a := rx
  obtain rfl : iv = Value.ref b := ry
  exact n_set hu I3 e hk kb pk rv hz fun s4 I4 => ⟨σ, _, I4, q3⟩
def keySN (i : Nat) (fk fv : Ex) : Sm := stE fv fun d ρ g => match fk ρ g with
  | .ok z g2 => (match ρ[i]?, nkT z with
    | some (.ow (.nd kvs)), some k => if kvs.length < big then .nx (ρ.set i (.ow (.nd (putND kvs z d k)))) g2 else .bad
    | _, _ => .bad)
  | _ => .bad
theorem psd_keyN (i : Nat) {x : Str} {p pos' : Pos} (hr : Room j X.A) (hk : PE X b (tE cls W fb)) (ha : PE X a (tE cls W fa)) (hN : X.N[i]? = some x := by rfl) (hv : Vis X.env.scope x := by first | exact Or.inl rfl | exact Or.inr (Or.inl rfl) | exact Or.inr (Or.inr rfl)) (hd : (x == ("__debug__" : Str)) = false := by decide) (hcd : (x == ("__classdict__" : Str)) = false := by decide)
    (hs : swapsWith a (some (.Subscript (.Name x p) b pos')) pos.line X.env = pure false := by rfl) :
    PS X (.Assign [.Subscript (.Name x p) b pos'] a pos) (tS cls W (keySN i fb fa)) :=
  PS_imp (ps_dputN (by have := hu64 hr; omega) (pe_var hN hv hd hcd) hk ha hs) fun D σ H h => st_of h fun B S ρ g d v H1 I r q => by
    cases ek : fb ρ g with
    | bad => rw [ek] at q; exact False.elim q
    | ex n g2 => rw [ek] at q; exact False.elim q
    | ok z g2 =>
      rw [ek] at q
      simp only at q
      split at q
      · rename_i kvs k hi hz
        by_cases hb : kvs.length < big
        · rw [if_pos hb] at q
          obtain ⟨l, o, h1, h2, h3, h4, h5, h6⟩ := I.ow i _ hi
          cases h6 with
          | @nd _ xs r0 =>
            refine ⟨.ref l, h1, B, S, ρ, g, I, ?_⟩
            rw [ek]
            intro y H2 S2 I2 e2 r2
            obtain ⟨hk1, hk2, hk3, ds, rfl⟩ := nkT_of hz
            obtain ⟨c, rfl, kb⟩ := key_at (K := X.K) I2.sub r2 hz
            have h5' := e2.keep l _ h5 h3
            have r0' : Rpn S2 xs kvs := r0.mono e2.base
            refine ⟨l, c, xs, k, rfl, rfl, h5', Rpn.keys I2.sub r0', kb, nkD_plain hk1, by rw [Rpn.length r0]; exact big_lt hb, ?_⟩
            exact q _ _ _ (I2.mutO hi h1 (b' := .nd (putND kvs (.tuple ds) d k)) (.nd (r0'.put hk1 hk2 hk3 r2 (r.mono e2.base))) fun _ z => nomatch z) e2.base
        · rw [if_neg hb] at q; exact False.elim q
      · exact False.elim q
/-- del x[e] -/
def sDDelN (td ty : TE) (K : PySem.W.Frag) : TS := fun D σ H => td σ H fun x H1 => ty σ H1 fun y H2 => ∃ a b xs k v, x = .ref a ∧ y = .ref b ∧ H2 a = some (NdO a xs) ∧ (∀ r ∈ xs, KeyAt K H2 r.1 r.2.1) ∧ KeyAt K H2 k b ∧ atN xs k = some v ∧ D.nx σ (upd H2 a (NdO a (delN xs k)))
theorem ps_ddelN {o i : Expr} {tpos : Pos} {td ty : TE} (hu : X.A.units + 16 < cLine) (ho : PE X o td) (hi : PE X i ty) : PS X (.Delete [.Subscript o i tpos] pos) (sDDelN td ty X.K) := by
  refine ⟨fun pins s σ H D I h => ?_⟩
  refine wpAny_Delete (wpAny_deleteEach_cons (wpAny_delete_Subscript (thn (ho.run pins s σ H _ I h) fun u s1 ⟨x, H1, I1, rx, q1⟩ => thn (hi.run pins s1 σ H1 _ I1 q1) fun iv s2 ⟨y, H2, I2, ry, a, b, xs, k, v, ex, ey, e, hk, kb, hv, q2⟩ => ?_)))
  subst ex ey
  obtain rfl : u = Value.ref a := rx
  obtain rfl : iv = Value.ref b := ry
  exact n_del hu I2 e hk kb hv fun s3 I3 => wpAny_deleteEach_nil ⟨σ, _, I3, q2⟩
def delSN (i : Nat) (fk : Ex) : Sm := fun ρ g => match fk ρ g with
  | .ok z g2 => (match ρ[i]?, nkT z with
    | some (.ow (.nd kvs)), some k => if (kvs.any fun kv => decide (nkD kv.1 = some k)) = true then .nx (ρ.set i (.ow (.nd (delND kvs k)))) g2 else .bad
    | _, _ => .bad)
  | _ => .bad
theorem psd_delN (i : Nat) {x : Str} {p tpos : Pos} (hr : Room j X.A) (hk : PE X b (tE cls W fb)) (hN : X.N[i]? = some x := by rfl) (hv : Vis X.env.scope x := by first | exact Or.inl rfl | exact Or.inr (Or.inl rfl) | exact Or.inr (Or.inr rfl)) (hd : (x == ("__debug__" : Str)) = false := by decide) (hcd : (x == ("__classdict__" : Str)) = false := by decide) :
    PS X (.Delete [.Subscript (.Name x p) b tpos] pos) (tS cls W (delSN i fb)) :=
  PS_imp (ps_ddelN (by have := hu64 hr; omega) (pe_var hN hv hd hcd) hk) fun D σ H ⟨B, S, ρ, g, I, q⟩ => by
    unfold delSN at q
    cases ek : fb ρ g with
    | bad => rw [ek] at q; exact False.elim q
    | ex n g2 => rw [ek] at q; exact False.elim q
    | ok z g2 =>
      rw [ek] at q
      simp only at q
      split at q
      · rename_i kvs k hi hz
        by_cases hb : (kvs.any fun kv => decide (nkD kv.1 = some k)) = true
        · rw [if_pos hb] at q
          obtain ⟨l, o, h1, h2, h3, h4, h5, h6⟩ := I.ow i _ hi
          cases h6 with
          | @nd _ xs r0 =>
            refine ⟨.ref l, h1, B, S, ρ, g, I, ?_⟩
            rw [ek]
            intro y H2 S2 I2 e2 r2
            obtain ⟨hk1, hk2, hk3, ds, rfl⟩ := nkT_of hz
            obtain ⟨c, rfl, kb⟩ := key_at (K := X.K) I2.sub r2 hz
            have h5' := e2.keep l _ h5 h3
            have r0' : Rpn S2 xs kvs := r0.mono e2.base
            rcases Rpn.at k r0' with ⟨_, _, e3⟩ | ⟨_, v, _, e4, _, _⟩
            · rw [e3] at hb; cases hb
            · refine ⟨l, c, xs, k, v, rfl, rfl, h5', Rpn.keys I2.sub r0', kb, e4, ?_⟩
              exact q _ _ _ (I2.mutO hi h1 (b' := .nd (delND kvs k)) (.nd (Rpn.del r0')) fun _ z => nomatch z) e2.base
        · rw [if_neg hb] at q; exact False.elim q
      · exact False.elim q
/-- an own dict is fixed -/
def frzSN (i : Nat) (s : Sm) : Sm := fun ρ g => match ρ[i]? with
  | some (.ow (.nd kvs)) => s (ρ.set i (.sh (ndD kvs))) g
  | _ => .bad
theorem pssd_frzN (i : Nat) {s : Sm} (h : PSs X rest (tS cls W s)) : PSs X rest (tS cls W (frzSN i s)) := by
  refine ⟨fun pins s0 σ H D J hw => ?_⟩
  obtain ⟨B, S, ρ, g, I, hw⟩ := hw
  unfold frzSN at hw
  split at hw
  · rename_i kvs hi
    obtain ⟨a, o, h1, h2, h3, h4, h5, h6⟩ := I.ow i _ hi
    cases h6 with
    | @nd _ xs r =>
      obtain ⟨od, J1⟩ := J.lock h5 True.intro
      have I1 := I.mutO hi h1 (b' := .fn kvs) (o' := .frz od (NdO a xs)) (.fn r) fun _ z => nomatch z
      have hl : i < ρ.length := (List.getElem?_eq_some_iff.mp hi).1
      obtain ⟨S', sm, I2⟩ := I1.shutB (d := ndD kvs) (List.getElem?_set_self hl) rfl
      rw [List.set_set] at I2
      exact h.run pins s0 σ _ D J1 ⟨B, S', _, g, I2, SO_gr sm hw⟩
  · exact False.elim hw
end
end DL

set_option Elab.async false
set_option linter.all false
set_option maxRecDepth 100000
set_option maxHeartbeats 400000
/-! The data layer, part 29: a dict of one's own is looked at (locked meanwhile); sorted(dict); x.get(k, d). -/
namespace DL
open PySem PySem.Spec PyProof.Rows L2
variable {cls : Nat → Value}
/-! ### back from a look -/
def dropA (S : Hp) (a : Addr) : Hp := fun b => if b = a then none else S b
theorem dropA_ne {S : Hp} {a b : Addr} (h : b ≠ a) : dropA S a b = S b := by unfold dropA; rw [if_neg h]
theorem dropA_same {S : Hp} {a : Addr} : dropA S a a = none := by unfold dropA; rw [if_pos rfl]
mutual
theorem Rp.drop {S : Hp} {a : Addr} {o : Obj} {u : HO} (h : S a = some (.frz o u)) : ∀ {d : PyData} {v : V}, d.canLay0 = true → Rp S v d → Rp (dropA S a) v d
  | _, _, _, .non => .non
  | _, _, _, .bl b => .bl b
  | _, _, _, .int i => .int i
  | _, _, _, .str x => .str x
  | _, _, c, .lst e r => .lst (by rw [dropA_ne (fun z => by rw [z, h] at e; cases e)]; exact e) (Rps.dropR h (by simpa [PyData.canLay0] using c) r)
  | _, _, c, .tup e r => .tup (by rw [dropA_ne (fun z => by rw [z, h] at e; cases e)]; exact e) (Rps.dropR h (by simpa [PyData.canLay0] using c) r)
  | _, _, c, .dic e r => by simp [PyData.canLay0] at c
  | _, _, c, .dicN e r => by simp [ndD, PyData.canLay0] at c
theorem Rps.dropR {S : Hp} {a : Addr} {o : Obj} {u : HO} (h : S a = some (.frz o u)) : ∀ {ds : List PyData} {vs : List V}, PyData.canLayAll0 ds = true → Rps S vs ds → Rps (dropA S a) vs ds
  | _, _, _, .nil => .nil
  | _, _, c, .cons r t => .cons (Rp.drop h (by simp [PyData.canLayAll0] at c; exact c.1) r) (Rps.dropR h (by simp [PyData.canLayAll0] at c; exact c.2) t)
end
theorem ints_lay (ns : List Int) : (PyData.list (ns.map PyData.int)).canLay0 = true := by
  have : PyData.canLayAll0 (ns.map PyData.int) = true := by
    induction ns with
    | nil => simp [PyData.canLayAll0]
    | cons n r ih => simp [PyData.canLayAll0, PyData.canLay0, ih]
  simp [PyData.canLay0, this]
theorem Good.unlookN {B : Bs cls} {σ : L2.St} {H S H1 S1 : Hp} {ρ ρ' : Nv} {g g1 : G} {a : Addr} {od : Obj} {xs : List NRow} (I : Good B σ H S ρ g) (ha : H a = some (NdO a xs)) (hS : S a = none) (hX : ¬ Exm B H S a)
    (I1 : Good B σ H1 S1 ρ' g1) (e : Gr B (upd H a (.frz od (NdO a xs))) (upd S a (.frz od (NdO a xs))) H1 S1) (n0 : nob g = true) (n1 : nob g1 = true) : Good B σ (upd H1 a (NdO a xs)) (dropA S1 a) ρ g1 ∧ Gr B H S (upd H1 a (NdO a xs)) (dropA S1 a) ∧ S1 a = some (.frz od (NdO a xs)) := by
  have hA : B.live = true → a ≠ B.A := fun hl z => hX ⟨hl, .inl z⟩
  have bk0 : ∀ {c : Addr}, Exm B (upd H a (.frz od (NdO a xs))) (upd S a (.frz od (NdO a xs))) c → Exm B H S c := fun x => x.back (fun c u q => by rw [upd_ne (ne_of_none q hS)]; exact q) fun hl => upd_ne (Ne.symm (hA hl))
  have s1 : S1 a = some (.frz od (NdO a xs)) := e.base _ _ upd_same
  have gr : Gr B H S (upd H1 a (NdO a xs)) (dropA S1 a) := by
    refine ⟨fun c o h n => ?_, fun c o h => ?_, fun c h => ?_, fun c h => ?_, fun c x => ⟨x.1, .inl ?_⟩⟩
    · by_cases hc : c = a
      · subst hc; rw [upd_same, ← ha]; exact h
      · rw [upd_ne hc]; exact e.keep c o (by rw [upd_ne hc]; exact h) fun x => n (bk0 x)
    · have hc : c ≠ a := ne_of_none h hS
      rw [dropA_ne hc]
      exact e.base _ _ (by rw [upd_ne hc]; exact h)
    · by_cases hc : c = a
      · subst hc; rw [dropA_same] at h; exact absurd rfl h
      · rw [dropA_ne hc] at h
        rcases e.new c h with z | z
        · rw [upd_ne hc] at z; exact .inl z
        · rw [upd_ne hc] at z; exact .inr z
    · by_cases hc : c = a
      · subst hc; rw [upd_same]; simp
      · rw [upd_ne hc]; exact e.there c (by rw [upd_ne hc]; exact h)
    · have x1 : Exm B H1 (dropA S1 a) c := (Exm.upd_iff hA).mp x
      exact Exm.nob I1.dr n1 x1
  refine ⟨I.grow gr (fun c o h => ?_) ?_, gr, s1⟩
  · have hc : c ≠ a := fun z => by rw [z, dropA_same] at h; cases h
    rw [dropA_ne hc] at h
    rw [upd_ne hc]
    exact I1.sub _ _ h
  · have d1 : DrAt B H1 S1 g1 := I1.dr
    match g1, d1, n1 with
    | none, d1, _ => exact d1
    | some (.ob _ _), _, n1 => cases n1
    | some (.dr ns k), d1, _ =>
      obtain ⟨hl, h1, h2⟩ := d1
      exact ⟨hl, by rw [upd_ne (Ne.symm (hA hl))]; exact h1, Rp.drop s1 (ints_lay ns) h2⟩
section
variable {X : Cx} {cls : Nat → Value} {W : WX} {pos : Pos} {a b e : Expr} {fa fb : Ex} {D : Ends} {σ : L2.St} {H : Hp} {j : Nat}
/-- an own dict is looked at; what comes of it holds no dict -/
def peekND (i : Nat) (f : Ex) : Ex := fun ρ g => match ρ[i]? with
  | some (.ow (.nd kvs)) => (match f (ρ.set i (.sh (ndD kvs))) g with
    | .ok x g1 => if x.canLay0 = true ∧ nob g = true ∧ nob g1 = true then .ok x g1 else .bad
    | _ => .bad)
  | _ => .bad
def peekNT (i : Nat) (f : Te) : Te := fun ρ g => match ρ[i]? with
  | some (.ow (.nd kvs)) => (match f (ρ.set i (.sh (ndD kvs))) g with
    | .ok x g1 => if nob g = true ∧ nob g1 = true then .ok x g1 else .bad
    | _ => .bad)
  | _ => .bad
def peekNO (i : Nat) (f : Ow) : Ow := fun ρ g => match ρ[i]? with
  | some (.ow (.nd kvs)) => (match f (ρ.set i (.sh (ndD kvs))) g with
    | .ok (.lst xs) g1 => if PyData.canLayAll0 xs = true ∧ nob g = true ∧ nob g1 = true then .ok (.lst xs) g1 else .bad
    | _ => .bad)
  | _ => .bad
/-- the look's start: all that is wanted of it -/
theorem look_in {B : Bs cls} {S : Hp} {ρ : Nv} {g : G} {i : Nat} {kvs : List (PyData × PyData)} {pins : List (Addr × Obj)} {s : Shared} (J : Inv X pins σ H s) (I : Good B σ H S ρ g) (hi : ρ[i]? = some (.ow (.nd kvs))) :
    ∃ a xs od, H a = some (NdO a xs) ∧ S a = none ∧ ¬ Exm B H S a ∧ Inv X pins σ (upd H a (.frz od (NdO a xs))) s ∧ Good B σ (upd H a (.frz od (NdO a xs))) (upd S a (.frz od (NdO a xs))) (ρ.set i (.sh (ndD kvs))) g ∧ ∀ o' u', X.H_0 a ≠ some (.frz o' u') := by
  obtain ⟨a, o, h1, h2, h3, h4, h5, h6⟩ := I.ow i _ hi
  cases h6 with
  | @nd _ xs r =>
    obtain ⟨od, J1⟩ := J.lock h5 True.intro
    have I1 := I.mutO hi h1 (b' := .fn kvs) (o' := .frz od (NdO a xs)) (.fn r) fun _ z => nomatch z
    have hl : i < ρ.length := (List.getElem?_eq_some_iff.mp hi).1
    obtain ⟨a', o', k1, k2, k3, k4, I2⟩ := I1.shutX (dd := ndD kvs) (List.getElem?_set_self hl) fun S' b o e r => by
      cases r with
      | fn r => exact .dicN e r
    have ea := addr_of h1 k1
    subst ea
    rw [upd_same] at k2
    cases k2
    rw [List.set_set] at I2
    exact ⟨a, xs, od, h5, h2, h3, J1, I2, J.nofrz h5 True.intro⟩
theorem pd_peekN (i : Nat) (h : PE X e (tE cls W fa)) : PE X e (tE cls W (peekND i fa)) := by
  refine ⟨fun pins s σ H Q J hw => ?_⟩
  obtain ⟨B, S, ρ, g, I, hw⟩ := hw
  unfold peekND at hw
  split at hw
  · rename_i kvs hi
    obtain ⟨a, xs, od, h1, h2, h3, J1, I1, nf⟩ := look_in J I hi
    refine thn (h.run pins s σ _ (fun x H1 => H1 a = some (.frz od (NdO a xs)) ∧ Q x (upd H1 a (NdO a xs))) J1 ⟨B, _, _, g, I1, ?_⟩) fun v s1 ⟨x, H1, J2, r, q1, q2⟩ => ⟨x, _, J2.unlock q1 nf, r, q2⟩
    cases ef : fa (ρ.set i (.sh (ndD kvs))) g with
    | bad => rw [ef] at hw; exact hw
    | ex n g1 => rw [ef] at hw; exact False.elim hw
    | ok x g1 =>
      rw [ef] at hw
      simp only at hw
      by_cases c : x.canLay0 = true ∧ nob g = true ∧ nob g1 = true
      · rw [if_pos c] at hw
        intro v H1 S1 I2 e2 r2
        obtain ⟨I3, e3, s1⟩ := I.unlookN h1 h2 h3 I2 e2 c.2.1 c.2.2
        exact ⟨I2.sub _ _ s1, hw v _ _ I3 e3 (Rp.drop s1 c.1 r2)⟩
      · rw [if_neg c] at hw; exact False.elim hw
  · exact False.elim hw
theorem ptd_peekN (i : Nat) {f : Te} (h : PT X e (tT cls W f)) : PT X e (tT cls W (peekNT i f)) := by
  refine ⟨fun pins s σ H Q J hw => ?_⟩
  obtain ⟨B, S, ρ, g, I, hw⟩ := hw
  unfold peekNT at hw
  split at hw
  · rename_i kvs hi
    obtain ⟨a, xs, od, h1, h2, h3, J1, I1, nf⟩ := look_in J I hi
    refine thn (h.run pins s σ _ (fun x H1 => H1 a = some (.frz od (NdO a xs)) ∧ Q x (upd H1 a (NdO a xs))) J1 ⟨B, _, _, g, I1, ?_⟩) fun v s1 ⟨H1, J2, q1, q2⟩ => ⟨_, J2.unlock q1 nf, q2⟩
    cases ef : f (ρ.set i (.sh (ndD kvs))) g with
    | bad => rw [ef] at hw; exact hw
    | ex n g1 => rw [ef] at hw; exact False.elim hw
    | ok x g1 =>
      rw [ef] at hw
      simp only at hw
      by_cases c : nob g = true ∧ nob g1 = true
      · rw [if_pos c] at hw
        intro H1 S1 I2 e2
        obtain ⟨I3, e3, s1⟩ := I.unlookN h1 h2 h3 I2 e2 c.1 c.2
        exact ⟨I2.sub _ _ s1, hw _ _ I3 e3⟩
      · rw [if_neg c] at hw; exact False.elim hw
  · exact False.elim hw
theorem po_peekN (i : Nat) {f : Ow} (h : PE X e (tO cls W f)) : PE X e (tO cls W (peekNO i f)) := by
  refine ⟨fun pins s σ H Q J hw => ?_⟩
  obtain ⟨B, S, ρ, g, I, hw⟩ := hw
  unfold peekNO at hw
  split at hw
  · rename_i kvs hi
    obtain ⟨a, xs, od, h1, h2, h3, J1, I1, nf⟩ := look_in J I hi
    refine thn (h.run pins s σ _ (fun x H1 => H1 a = some (.frz od (NdO a xs)) ∧ Q x (upd H1 a (NdO a xs))) J1 ⟨B, _, _, g, I1, ?_⟩) fun v s1 ⟨x, H1, J2, r, q1, q2⟩ => ⟨x, _, J2.unlock q1 nf, r, q2⟩
    cases ef : f (ρ.set i (.sh (ndD kvs))) g with
    | bad => rw [ef] at hw; exact hw
    | ex n g1 => rw [ef] at hw; exact False.elim hw
    | ok x g1 =>
      rw [ef] at hw
      cases x with
      | lst ds =>
        simp only at hw
        by_cases c : PyData.canLayAll0 ds = true ∧ nob g = true ∧ nob g1 = true
        · rw [if_pos c] at hw
          intro c' o H1 S1 I2 e2 n1 n2 ho hb
          obtain ⟨I3, e3, s1⟩ := I.unlookN h1 h2 h3 I2 e2 c.2.1 c.2.2
          have hc : c' ≠ a := fun z => by rw [z, s1] at n1; cases n1
          have hn2 : H c' = none := by
            have := n2
            rw [upd_ne hc] at this
            exact this
          cases hb with
          | lst r => exact ⟨I2.sub _ _ s1, hw c' _ _ _ I3 e3 (by rw [dropA_ne hc]; exact n1) hn2 (by rw [upd_ne hc]; exact ho) (.lst (Rps.dropR s1 c.1 r))⟩
        · rw [if_neg c] at hw; exact False.elim hw
      | _ => exact False.elim hw
  · exact False.elim hw
end
/-! ### sorted(dict) -/
theorem kdl_raw {prog : Program} {w : World} {d : Addr} {es : Array DictEntry} {ep : Nat} (lo : (d == sysModules) = false) : PySem.W.KdlSrc prog w "dict" d d es.size (fun i v => ∃ hi : i < es.size, v = es[i].key) (fun h => h.DictRaw d es ep) where
  type := fun _ hm => by obtain ⟨o, ho, hc, _⟩ := hm; exact ⟨o, ho, hc.1⟩
  there := fun _ hm => by obtain ⟨o, ho, _⟩ := hm; exact ⟨Heap.lt_size ho, Heap.lt_size ho⟩
  keep := fun _ _ hm hk => by obtain ⟨o, ho, r⟩ := hm; exact ⟨o, hk d (.inl rfl) o ho, r⟩
  notList := by decide
  notTuple := by decide
  hint := fun _ _ _ _ hm hq => by obtain ⟨o, ho, hc, _⟩ := hm; exact PySem.W.kdl_hint_dict ⟨o, ho, hc.1⟩ hq
  iter := fun _ _ hh hm => by
    obtain ⟨o, ho, r⟩ := hm
    exact ⟨_, _, (fun _ _ hq => wpAny_pyIter_dict_raw lo ⟨o, ho, r⟩ hq), Walks.rawKeys hh _ d (Nat.ne_of_lt (Heap.lt_size ho)) es ep, ⟨⟨_, Heap.get?_push_size _ rfl, rfl, rfl⟩, ⟨o, Heap.get?_push_of_some _ ho, r⟩⟩⟩
mutual
theorem reads_nolist {h : Heap} : ∀ {d : PyData} {u : Value} {as : List Addr} {k : NestedKey}, Reads h u d as → nkD d = some k → as = []
  | .none, _, _, k, r, e => by cases r; rfl
  | .bool b, _, _, k, r, e => by cases r; rfl
  | .int i, _, _, k, r, e => by cases r; rfl
  | .str x, _, _, k, r, e => by simp [nkD] at e
  | .list x, _, _, k, r, e => by simp [nkD] at e
  | .dict x, _, _, k, r, e => by simp [nkD] at e
  | .tuple ds, _, _, k, r, e => by
    simp only [nkD] at e
    obtain ⟨ks, h1, rfl⟩ := Option.map_eq_some_iff.mp e
    cases r with
    | tuple a b c z => exact readsAll_nolist z h1
theorem readsAll_nolist {h : Heap} : ∀ {ds : List PyData} {us : List Value} {as : List Addr} {ks : List NestedKey}, ReadsAll h us ds as → nkDs ds = some ks → as = []
  | [], _, _, ks, r, e => by cases r; rfl
  | d :: ds, _, _, ks, r, e => by
    simp only [nkDs] at e
    obtain ⟨k, h1, h2⟩ := Option.bind_eq_some_iff.mp e
    obtain ⟨m, h3, rfl⟩ := Option.map_eq_some_iff.mp h2
    cases r with
    | cons a b => rw [reads_nolist a h1, readsAll_nolist b h3]; rfl
end
def rSortN (K : PySem.W.Frag) : List V → Hp → VK → Prop := fun vs H Q => ∃ (a : Addr) (xs : List NRow) (ds : List PyData), vs = [V.ref a] ∧ Rd H a (NdO a xs) ∧ DpAll K H (xs.map fun x => V.ref x.2.1) ds ∧ (∀ d ∈ ds, ∃ k, nkD d = some k) ∧ PySem.W.AllAlike ds ∧ PySem.W.Sortable ds ∧ (∀ d ∈ ds, d.depth ≤ 10) ∧
  ∀ (zs : List (V × PyData)) (p : Addr), zs.Perm ((xs.map fun x => V.ref x.2.1).zip ds) → zs.map (·.2) = srtD ds → H p = none → Q (.ref p) (upd H p (.lst (zs.map (·.1))))
theorem each_nol {h : Heap} {a : Addr} : ∀ {vs : List Value} {bs : List (V × PyData)}, PySem.W.EachIs (fun (v : Value) (b : V × PyData) => ∃ as, Reads h v b.2 as) vs bs → (∀ b ∈ bs, ∃ k, nkD b.2 = some k) → PySem.W.EachIs (fun (v : Value) (b : V × PyData) => ∃ as, Reads h v b.2 as ∧ a ∉ as) vs bs
  | _, _, .nil, _ => .nil
  | _, _, .cons ⟨as, r⟩ t, hk => by
    obtain ⟨k, e⟩ := hk _ List.mem_cons_self
    refine .cons ⟨as, r, ?_⟩ (each_nol t fun b hb => hk b (List.mem_cons_of_mem _ hb))
    rw [reads_nolist r e]
    simp
theorem cr_sortN {X : Cx} (hcalm : X.calm = true) (hu : X.A.units + 64 < cLine) : CallR X (.builtin "sorted") (rSortN X.K) := by
  intro pins s σ H vs us Q I r h
  obtain ⟨a, xs, ds, rfl, hd, hdp, hnk, al, so, dp, q⟩ := h
  rw [Vals.ref1 r]
  obtain ⟨hz, lo, pl, us', w', rel, o, es, ep, ho, hx, hdat, hes, hnd⟩ := Inv.ndok I hd
  have l1 := Paired.length rel
  have l2 : es.size = us'.length := by
    have := congrArg List.length hes
    rw [List.length_map, Array.length_toList] at this
    exact this
  refine Calls.call_function_entry PyProof.Rows.kind_sorted PyProof.Rows.plain_sorted PyProof.Rows.entry_sorted (PyProof.Rows.args_sorted1 _) ?_
  unfold Builtin.«sorted»
  refine wpAny_bind (m := checkCount "sorted" 1 1 _) (wpAny_pure ?_)
  refine wpAny_bind (PySem.W.kdu_collect (A := X.A.in1) (kdl_raw (prog := X.prog) (w := X.w) (es := es) (ep := ep) lo) (I.ok.hd hcalm) ⟨o, ho, hx, hdat⟩ (by omega) fun h' tk acc hk hacc => ?_)
  have hal : acc.toList.length = xs.length := by rw [Array.length_toList, hacc.1]; omega
  have hv : Vals (xs.map fun x => V.ref x.2.1) acc.toList := by
    have key : acc.toList = us'.map fun u => Value.ref u.2.1 := by
      refine List.ext_getElem? fun i => ?_
      by_cases hi : i < us'.length
      · have hi2 : i < acc.toList.length := by omega
        rw [List.getElem?_eq_getElem hi2, List.getElem?_map, List.getElem?_eq_getElem hi]
        obtain ⟨hi3, e3⟩ := hacc.2 i acc.toList[i] (by rw [← Array.getElem?_toList]; exact List.getElem?_eq_getElem hi2)
        rw [e3]
        have e4 : es.toList[i]? = some (⟨(us'[i]).1.hash w', .ref (us'[i]).2.1, (us'[i]).2.2⟩ : DictEntry) := by rw [hes, List.getElem?_map, List.getElem?_eq_getElem hi]; rfl
        rw [Array.getElem?_toList, Array.getElem?_eq_getElem hi3] at e4
        rw [Option.some.inj e4]
        rfl
      · rw [List.getElem?_eq_none (by omega), List.getElem?_eq_none (by rw [List.length_map]; omega)]
    rw [key]
    clear key hacc hal l1 l2 hes hnd hdp q hz hd pl
    induction rel with
    | nil => exact .nil
    | cons r t ih => exact .cons (by show Value.ref _ = Value.ref _; rw [r.2.1]) ih
  have I1 : Inv X pins σ H { s with heap := h', toks := tk } := I.kept hk
  obtain ⟨e1, e2⟩ := each_zip I1 hv hdp
  have hlen := dpAll_len hdp
  have m2 : ((xs.map fun x => V.ref x.2.1).zip ds).map (·.2) = ds := zip_snd hlen
  have zl : ((xs.map fun x => V.ref x.2.1).zip ds).length = xs.length := by rw [List.length_zip, ← hlen, List.length_map]; omega
  refine wpAny_bind (wpAny_newList ?_ (by rw [hal]; exact hz))
  have hoL : (h'.push (seqObj "list" acc.toList.toArray 0)).get? h'.objs.size = some (seqObj "list" acc.toList.toArray 0) := Heap.get?_push_size _ rfl
  show wpAny _ _ _ _ _ { s with heap := h'.push (seqObj "list" acc.toList.toArray 0), toks := tk }
  have e2' : PySem.W.EachIs (fun (v : Value) (b : V × PyData) => ∃ as, Reads (h'.push (seqObj "list" acc.toList.toArray 0)) v b.2 as) acc.toList ((xs.map fun x => V.ref x.2.1).zip ds) := e2.mono fun _ _ ⟨as, r⟩ => ⟨as, PyProof.Rows.Reads.keeps (fun _ _ z => Heap.get?_push_of_some _ z) r⟩
  have nk2 : ∀ b ∈ (xs.map fun x => V.ref x.2.1).zip ds, ∃ k, nkD b.2 = some k := fun b hb => hnk _ (by rw [← m2]; exact List.mem_map.mpr ⟨b, hb, rfl⟩)
  refine wpAny_bind (wpAny_holding (PySem.W.list_sort_data (s := { s with heap := h'.push (seqObj "list" acc.toList.toArray 0), toks := tk }) (enc := Prod.snd) hoL e1 (each_nol e2' nk2) (by rw [m2]; exact al) (by rw [m2]; exact so) (by rw [zl]; exact hz) (fun b hb => by
    have := dp b.2 (by rw [← m2]; exact List.mem_map.mpr ⟨b, hb, rfl⟩)
    have e : X.A.in1.units = X.A.units + 1 := Around.in1_units ..
    omega) fun out h1 h2 => ?_))
  obtain ⟨ep', he'⟩ := PyProof.Rows.sortedHeap_at (vs := acc.toList) (out := out.toArray) hoL
  have hperm := List.mergeSort_perm ((xs.map fun x => V.ref x.2.1).zip ds) (PySem.W.dataLe false Prod.snd)
  have hll : ((((xs.map fun x => V.ref x.2.1).zip ds).mergeSort (PySem.W.dataLe false Prod.snd)).map (·.1)).length ≤ sizeLine := by rw [List.length_map, hperm.length_eq, zl]; exact hz
  have mm : (((xs.map fun x => V.ref x.2.1).zip ds).mergeSort (PySem.W.dataLe false Prod.snd)).map (·.2) = srtD ds := by
    have z := List.map_mergeSort (f := fun x : V × PyData => x.2) (r := PySem.W.dataLe false Prod.snd) (s := PySem.W.dataLe false id) (l := (xs.map fun x => V.ref x.2.1).zip ds) (fun x _ y _ => rfl)
    rw [m2] at z
    exact z
  refine wpAny_pure ⟨_, rfl, .ref h'.objs.size, upd H h'.objs.size (.lst ((((xs.map fun x => V.ref x.2.1).zip ds).mergeSort (PySem.W.dataLe false Prod.snd)).map (·.1))), I1.laid (t' := tk) (fun b u e => ?_) (Nat.le_refl _) ⟨hll, out, ep', vals_each h2, he'⟩, rfl, q _ _ hperm mm (I1.hok.fresh (Nat.le_refl _))⟩
  have hb : b < h'.objs.size := Heap.lt_size e
  rw [PyProof.Rows.sortedHeap_old (Nat.ne_of_lt hb) (by rw [size_push']; exact Nat.lt_succ_of_lt hb)]
  exact Heap.get?_push_of_some _ e
section
variable {X : Cx} {cls : Nat → Value} {W : WX} {pos : Pos} {a b e f : Expr} {fa fb fe ff : Ex} {D : Ends} {σ : L2.St} {H : Hp} {j : Nat}
def sortKO (f : Ex) : Ow := fun ρ g => (f ρ g).bind fun x g1 => match x with
  | .dict ((.none, .none) :: kvs) => if okL (kvs.map (·.1)) = true ∧ tupB (kvs.map (·.1)) = true then .ok (.lst (srtD (kvs.map (·.1)))) g1 else .bad
  | _ => .bad
theorem Rpn.refs {S : Hp} : ∀ {kvs : List (PyData × PyData)} {xs : List NRow}, Rpn S xs kvs → Rps S (xs.map fun x => V.ref x.2.1) (kvs.map (·.1)) ∧ ∀ d ∈ kvs.map (·.1), ∃ k, nkD d = some k
  | _, _, .nil => ⟨.nil, fun _ h => nomatch h⟩
  | _, _, .cons a1 a2 a3 a4 a5 t => by
    obtain ⟨h1, h2⟩ := Rpn.refs t
    refine ⟨.cons a4 h1, fun d hd => ?_⟩
    rcases List.mem_cons.mp hd with rfl | hd
    · exact ⟨_, a1⟩
    · exact h2 d hd
theorem po_sortK {p : Pos} (hr : Room j X.A) (hc : X.calm = true) (hm : X.mg "sorted" = none) (ha : PE X a (tE cls W fa)) (hg : Gl X "sorted" := by rfl) (hs : starEach [a] X.env = (false, eval a X.env) :: starEach [] X.env := by rfl) (hpl : (backTo pos (starEach [] X.env)).any (·.1) = false := by rfl) : PE X (.Call (.Name "sorted" p) [a] [] pos) (tO cls W (sortKO fa)) :=
  PE_imp (pe_callB (cr_sortN hc (hu64 hr)) hg hm PyProof.Rows.boot_sorted (pa_cons ha pa_nil hs) (by decide) (by decide) hs hpl) fun σ H Q ⟨B, S, ρ, g, I, h⟩ => by
    unfold sortKO at h
    refine ⟨B, S, ρ, g, I, ?_⟩
    cases ea : fa ρ g with
    | bad => rw [ea] at h; exact h
    | ex n g1 => rw [ea] at h; exact h
    | ok x g1 =>
      rw [ea] at h
      simp only [R.bind_ok] at h
      intro v H1 S1 I1 e1 r1
      split at h
      · rename_i kvs
        by_cases hz : okL (kvs.map (·.1)) = true ∧ tupB (kvs.map (·.1)) = true
        · rw [if_pos hz] at h
          have r1' : Rp S1 v (ndD kvs) := r1
          generalize hy : ndD kvs = y at r1'
          cases r1' with
          | @dicN b o xs kvs' hb q =>
            have : kvs' = kvs := by
              unfold ndD at hy
              injection hy with hy
              injection hy with _ hy
              exact hy.symm
            subst this
            obtain ⟨q1, q2⟩ := Rpn.refs q
            obtain ⟨c, al, nn, dp, _⟩ := okL_of hz.1
            refine ⟨b, xs, _, rfl, .inr ⟨o, I1.sub _ _ hb⟩, Rps.dp I1.sub c q1, q2, al, sortable_of (by rw [hz.2]; rfl), dp, fun zs l hp hm hl => ?_⟩
            have rz : Rps S1 (zs.map (·.1)) (srtD (kvs'.map (·.1))) := by
              rw [← hm]
              exact rps_of_all fun z hz => rps_zip q1 z (hp.mem_iff.mp hz)
            obtain ⟨I2, e2⟩ := I1.allocO (o := .lst (zs.map (·.1))) hl
            exact h l _ _ _ I2 (e1.trans e2) (I1.stay hl) (none_back e1 hl) upd_same (.lst rz)
          | @dic b o ws kvs' hb q =>
            unfold ndD at hy
            injection hy with hy
            subst hy
            cases q with
            | cons hk _ _ => cases hk
          | _ => cases hy
        · rw [if_neg hz] at h; exact False.elim h
      · exact False.elim h
/-- x.get(e, d), x a dict as a datum -/
def tDGet2N (td ty tx : TE) (K : PySem.W.Frag) : TE := fun σ H Q => td σ H fun x H1 => ∃ a xs, x = .ref a ∧ Rd H1 a (NdO a xs) ∧ ty σ H1 fun y H2 => tx σ H2 fun z H3 => ∃ b k, y = .ref b ∧ Rd H3 a (NdO a xs) ∧ (∀ r ∈ xs, KeyAt K H3 r.1 r.2.1) ∧ KeyAt K H3 k b ∧ Q ((atN xs k).getD z) H3
theorem nd_noDict {pins : List (Addr × Obj)} {s : Shared} {a : Addr} {xs : List NRow} (I : Inv X pins σ H s) (e : Rd H a (NdO a xs)) (hk : ∀ r ∈ xs, KeyAt X.K H r.1 r.2.1) : ∀ o, s.heap.get? a = some o → o.dict = none := by
  obtain ⟨_, _, _, us, w, _, o, es, ep, ho, hx, _⟩ := Inv.ndok I e
  intro o' ho'
  rw [ho] at ho'
  cases ho'
  exact hx.2.1
end
end DL

set_option Elab.async false
set_option linter.all false
set_option maxRecDepth 100000
set_option maxHeartbeats 400000
/-! The data layer, part 30: x.get(k), x.get(k, d) of a dict that is a datum; {k: v} and {} as data. -/
namespace DL
open PySem PySem.Spec PyProof.Rows L2
variable {cls : Nat → Value}
section
variable {X : Cx} {cls : Nat → Value} {W : WX} {pos : Pos} {a b e f : Expr} {fa fb fe ff : Ex} {D : Ends} {σ : L2.St} {H : Hp} {j : Nat}
theorem nd_at {pins : List (Addr × Obj)} {s : Shared} {a : Addr} {xs : List NRow} (I : Inv X pins σ H s) (e : Rd H a (NdO a xs)) : s.TypeIs (.ref a) "dict" ∧ (∀ b, Value.ref a = .ref b → ∃ ob, s.heap.get? b = some ob ∧ ob.dict = none) := by
  obtain ⟨_, _, _, us, w, _, o, es, ep, ho, hx, _⟩ := Inv.ndok I e
  refine ⟨⟨o, ho, hx.1⟩, fun b q => ?_⟩
  cases q
  exact ⟨o, ho, hx.2.1⟩
theorem pe_dget2N {o : Expr} {apos cpos : Pos} {td ty tx : TE} (hu : X.A.units + 16 < cLine) (ho : PE X o td) (he : PE X e ty) (hf : PE X f tx) (m : M2 X o "get" apos e f cpos) : PE X (.Call (.Attribute o "get" apos) [e, f] [] cpos) (tDGet2N td ty tx X.K) := by
  refine ⟨fun pins s σ H Q I h => ?_⟩
  refine wpAny_Call_method m.base m.few m.line PySem.F.plainAttrs_dict PySem.F.slot_dict_get PySem.F.type_dict_get (thn (ho.run pins s σ H _ I h) fun u s1 ⟨x, H1, I1, rx, a, xs, ex, d, q1⟩ => ?_)
  subst ex
  obtain rfl : u = Value.ref a := rx
  obtain ⟨t1, t2⟩ := nd_at I1 d
  refine ⟨t1, t2, ?_⟩
  rw [m.trees]
  refine Calls.callWith_builtin rfl (Calls.evalArgs_plain (Calls.spliced_cons (thn (he.run pins s1 σ H1 _ I1 q1) fun iv s2 ⟨y, H2, I2, ry, q2⟩ =>
    Calls.spliced_cons (thn (hf.run pins s2 σ H2 _ I2 q2) fun fv s3 ⟨z, H3, I3, rz, b, k, ey, d3, hk, kb, q3⟩ => Calls.spliced_nil ?_))))
  subst ey
  obtain rfl : iv = Value.ref b := ry
  exact n_get hu I3 d3 hk kb rz fun w' s4 I4 rw' => ⟨_, H3, I4, rw', q3⟩
def getN (f fk fd : Ex) : Ex := fun ρ g => (f ρ g).bind fun x g0 => match x with
  | .dict ((.none, .none) :: kvs) => (fk ρ g0).bind fun y g1 => (fd ρ g1).bind fun d g2 => (match nkT y with
    | some k => .ok ((lookN kvs y).getD d) g2
    | none => .bad)
  | _ => .bad
theorem nd_inv {S : Hp} {v : V} {kvs : List (PyData × PyData)} (r : Rp S v (.dict ((.none, .none) :: kvs))) : ∃ a o xs, v = .ref a ∧ S a = some (.frz o (NdO a xs)) ∧ Rpn S xs kvs := by
  generalize hy : PyData.dict ((.none, .none) :: kvs) = y at r
  cases r with
  | @dicN a o xs kvs' h q =>
    have : kvs' = kvs := by
      unfold ndD at hy
      injection hy with hy
      injection hy with _ hy
      exact hy.symm
    subst this
    exact ⟨a, o, xs, rfl, h, q⟩
  | @dic b o ws kvs' hb q =>
    injection hy with hy
    subst hy
    cases q with
    | cons hk _ _ => cases hk
  | _ => cases hy
theorem getN_of (σ : L2.St) (H : Hp) (Q : VK) {K : PySem.W.Frag} (h : tE cls W (getN fa fe ff) σ H Q) : tDGet2N (tE cls W fa) (tE cls W fe) (tE cls W ff) K σ H Q := by
  obtain ⟨B, S, ρ, g, I, h⟩ := h
  unfold getN at h
  refine ⟨B, S, ρ, g, I, ?_⟩
  cases ea : fa ρ g with
  | bad => rw [ea] at h; exact h
  | ex n g1 => rw [ea] at h; exact h
  | ok x g0 =>
    rw [ea] at h
    simp only [R.bind_ok] at h
    intro v H1 S1 I1 e1 r1
    split at h
    · rename_i kvs
      obtain ⟨a, o, xs, rfl, hs, q⟩ := nd_inv r1
      refine ⟨a, xs, rfl, .inr ⟨o, I1.sub _ _ hs⟩, B, S1, ρ, g0, I1, ?_⟩
      cases ek : fe ρ g0 with
      | bad => rw [ek] at h; exact h
      | ex n g1 => rw [ek] at h; exact fun H' S' I' e' => h H' S' I' (e1.trans e')
      | ok y g1 =>
        rw [ek] at h
        simp only [R.bind_ok] at h
        intro vy H2 S2 I2 e2 r2
        refine ⟨B, S2, ρ, g1, I2, ?_⟩
        cases ef : ff ρ g1 with
        | bad => rw [ef] at h; exact h
        | ex n g2 => rw [ef] at h; exact fun H' S' I' e' => h H' S' I' ((e1.trans e2).trans e')
        | ok d g2 =>
          rw [ef] at h
          simp only [R.bind_ok] at h
          intro z H3 S3 I3 e3 r3
          cases ekk : nkT y with
          | none => rw [ekk] at h; exact False.elim h
          | some k =>
            rw [ekk] at h
            simp only at h
            have e13 := (e1.trans e2).trans e3
            have q3 : Rpn S3 xs kvs := q.mono (e2.base.trans e3.base)
            have hs3 : S3 a = some (.frz o (NdO a xs)) := e3.base _ _ (e2.base _ _ hs)
            obtain ⟨b, rfl, kb⟩ := key_at (K := K) I3.sub (r2.mono e3.base) ekk
            refine ⟨b, k, rfl, .inr ⟨o, I3.sub _ _ hs3⟩, Rpn.keys I3.sub q3, kb, ?_⟩
            unfold lookN at h
            rw [ekk] at h
            simp only [Option.bind_some] at h
            rcases Rpn.at k q3 with ⟨v1, v2, _⟩ | ⟨d', v', v1, v2, v3, _⟩
            · rw [v1] at h
              rw [v2]
              exact h z H3 S3 I3 e13 r3
            · rw [v1] at h
              rw [v2]
              exact h v' H3 S3 I3 e13 v3
    · exact False.elim h
theorem pd_getN {o : Expr} {apos cpos : Pos} (hr : Room j X.A) (ho : PE X o (tE cls W fa)) (he : PE X e (tE cls W fe)) (hf : PE X f (tE cls W ff)) (m : M2 X o "get" apos e f cpos := by exact ⟨by rfl, by rfl, by rfl, by rfl⟩) :
    PE X (.Call (.Attribute o "get" apos) [e, f] [] cpos) (tE cls W (getN fa fe ff)) := PE_imp (pe_dget2N (by have := hu64 hr; omega) ho he hf m) fun σ H Q h => getN_of σ H Q h
/-- x.get(e) -/
def tDGet1N (td ty : TE) (K : PySem.W.Frag) : TE := fun σ H Q => td σ H fun x H1 => ∃ a xs, x = .ref a ∧ Rd H1 a (NdO a xs) ∧ ty σ H1 fun y H3 => ∃ b k, y = .ref b ∧ Rd H3 a (NdO a xs) ∧ (∀ r ∈ xs, KeyAt K H3 r.1 r.2.1) ∧ KeyAt K H3 k b ∧ Q ((atN xs k).getD .non) H3
theorem pe_dget1N {o : Expr} {apos cpos : Pos} {td ty : TE} (hu : X.A.units + 16 < cLine) (ho : PE X o td) (he : PE X e ty) (m : M1 X o "get" apos e cpos) : PE X (.Call (.Attribute o "get" apos) [e] [] cpos) (tDGet1N td ty X.K) := by
  refine ⟨fun pins s σ H Q I h => ?_⟩
  refine wpAny_Call_method m.base m.few m.line PySem.F.plainAttrs_dict PySem.F.slot_dict_get PySem.F.type_dict_get (thn (ho.run pins s σ H _ I h) fun u s1 ⟨x, H1, I1, rx, a, xs, ex, d, q1⟩ => ?_)
  subst ex
  obtain rfl : u = Value.ref a := rx
  obtain ⟨t1, t2⟩ := nd_at I1 d
  refine ⟨t1, t2, ?_⟩
  rw [m.trees]
  refine Calls.callWith_builtin rfl (Calls.evalArgs_plain (Calls.spliced_cons (thn (he.run pins s1 σ H1 _ I1 q1) fun iv s2 ⟨y, H2, I2, ry, b, k, ey, d3, hk, kb, q2⟩ => Calls.spliced_nil ?_)))
  subst ey
  obtain rfl : iv = Value.ref b := ry
  exact n_get1 hu I2 d3 hk kb fun w' s3 I3 rw' => ⟨_, H2, I3, rw', q2⟩
def getN1 (f fk : Ex) : Ex := fun ρ g => (f ρ g).bind fun x g0 => match x with
  | .dict ((.none, .none) :: kvs) => (fk ρ g0).bind fun y g1 => (match nkT y with
    | some k => .ok ((lookN kvs y).getD .none) g1
    | none => .bad)
  | _ => .bad
theorem getN1_of (σ : L2.St) (H : Hp) (Q : VK) {K : PySem.W.Frag} (h : tE cls W (getN1 fa fe) σ H Q) : tDGet1N (tE cls W fa) (tE cls W fe) K σ H Q := by
  obtain ⟨B, S, ρ, g, I, h⟩ := h
  unfold getN1 at h
  refine ⟨B, S, ρ, g, I, ?_⟩
  cases ea : fa ρ g with
  | bad => rw [ea] at h; exact h
  | ex n g1 => rw [ea] at h; exact h
  | ok x g0 =>
    rw [ea] at h
    simp only [R.bind_ok] at h
    intro v H1 S1 I1 e1 r1
    split at h
    · rename_i kvs
      obtain ⟨a, o, xs, rfl, hs, q⟩ := nd_inv r1
      refine ⟨a, xs, rfl, .inr ⟨o, I1.sub _ _ hs⟩, B, S1, ρ, g0, I1, ?_⟩
      cases ek : fe ρ g0 with
      | bad => rw [ek] at h; exact h
      | ex n g1 => rw [ek] at h; exact fun H' S' I' e' => h H' S' I' (e1.trans e')
      | ok y g1 =>
        rw [ek] at h
        simp only [R.bind_ok] at h
        intro vy H3 S3 I3 e3 r3
        cases ekk : nkT y with
        | none => rw [ekk] at h; exact False.elim h
        | some k =>
          rw [ekk] at h
          simp only at h
          have e13 := e1.trans e3
          have q3 : Rpn S3 xs kvs := q.mono e3.base
          have hs3 : S3 a = some (.frz o (NdO a xs)) := e3.base _ _ hs
          obtain ⟨b, rfl, kb⟩ := key_at (K := K) I3.sub r3 ekk
          refine ⟨b, k, rfl, .inr ⟨o, I3.sub _ _ hs3⟩, Rpn.keys I3.sub q3, kb, ?_⟩
          unfold lookN at h
          rw [ekk] at h
          simp only [Option.bind_some] at h
          rcases Rpn.at k q3 with ⟨v1, v2, _⟩ | ⟨d', v', v1, v2, v3, _⟩
          · rw [v1] at h
            rw [v2]
            exact h .non H3 S3 I3 e13 .non
          · rw [v1] at h
            rw [v2]
            exact h v' H3 S3 I3 e13 v3
    · exact False.elim h
theorem pd_getN1 {o : Expr} {apos cpos : Pos} (hr : Room j X.A) (ho : PE X o (tE cls W fa)) (he : PE X e (tE cls W fe)) (m : M1 X o "get" apos e cpos := by exact ⟨by rfl, by rfl, by rfl, by rfl⟩) :
    PE X (.Call (.Attribute o "get" apos) [e] [] cpos) (tE cls W (getN1 fa fe)) := PE_imp (pe_dget1N (by have := hu64 hr; omega) ho he m) fun σ H Q h => getN1_of σ H Q h
end
end DL

set_option Elab.async false
set_option linter.all false
set_option maxRecDepth 100000
set_option maxHeartbeats 400000
/-! The data layer, part 31: y = [.. for .. ] where a dict of one's own is looked at; {k: v} as a dict of one's own with a tuple as key. -/
namespace DL
open PySem PySem.Spec PyProof.Rows L2
variable {cls : Nat → Value}
section
variable {X : Cx} {cls : Nat → Value} {W : WX} {pos : Pos} {a b e : Expr} {fa fb : Ex} {D : Ends} {σ : L2.St} {H : Hp} {j : Nat}
theorem look_at {B : Bs cls} {S : Hp} {ρ : Nv} {g : G} {i : Nat} {kvs : List (PyData × PyData)} (I : Good B σ H S ρ g) (hi : ρ[i]? = some (.ow (.nd kvs))) :
    ∃ a xs, H a = some (NdO a xs) ∧ S a = none ∧ ¬ Exm B H S a ∧ ∀ od, Good B σ (upd H a (.frz od (NdO a xs))) (upd S a (.frz od (NdO a xs))) (ρ.set i (.sh (ndD kvs))) g := by
  obtain ⟨a, o, h1, h2, h3, h4, h5, h6⟩ := I.ow i _ hi
  cases h6 with
  | @nd _ xs r =>
    refine ⟨a, xs, h5, h2, h3, fun od => ?_⟩
    have I1 := I.mutO hi h1 (b' := .fn kvs) (o' := .frz od (NdO a xs)) (.fn r) fun _ z => nomatch z
    have hl : i < ρ.length := (List.getElem?_eq_some_iff.mp hi).1
    obtain ⟨a', o', k1, k2, k3, k4, I2⟩ := I1.shutX (dd := ndD kvs) (List.getElem?_set_self hl) fun S' b o e r => by
      cases r with
      | fn r => exact .dicN e r
    have ea := addr_of h1 k1
    subst ea
    rw [upd_same] at k2
    cases k2
    rw [List.set_set] at I2
    exact I2
theorem peekNO_lock {i : Nat} {f : Ow} {Q : VK} (hw : tO cls W (peekNO i f) σ H Q) : ∃ d u, H d = some u ∧ Mut (some u) ∧ ∀ od, tO cls W f σ (upd H d (.frz od u)) fun x H1 => H1 d = some (.frz od u) ∧ Q x (upd H1 d u) := by
  obtain ⟨B, S, ρ, g, I, hw⟩ := hw
  unfold peekNO at hw
  split at hw
  · rename_i kvs hi
    obtain ⟨a, xs, h1, h2, h3, I1⟩ := look_at I hi
    refine ⟨a, NdO a xs, h1, True.intro, fun od => ⟨B, _, _, g, I1 od, ?_⟩⟩
    cases ef : f (ρ.set i (.sh (ndD kvs))) g with
    | bad => rw [ef] at hw; exact hw
    | ex n g1 => rw [ef] at hw; exact False.elim hw
    | ok x g1 =>
      rw [ef] at hw
      cases x with
      | lst ds =>
        simp only at hw
        by_cases c : PyData.canLayAll0 ds = true ∧ nob g = true ∧ nob g1 = true
        · rw [if_pos c] at hw
          intro c' o H1 S1 I2 e2 n1 n2 ho hb
          obtain ⟨I3, e3, s1⟩ := I.unlookN h1 h2 h3 I2 e2 c.2.1 c.2.2
          have hc : c' ≠ a := fun z => by rw [z, s1] at n1; cases n1
          have hn2 : H c' = none := by
            have := n2
            rw [upd_ne hc] at this
            exact this
          cases hb with
          | lst r => exact ⟨I2.sub _ _ s1, hw c' _ _ _ I3 e3 (by rw [dropA_ne hc]; exact n1) hn2 (by rw [upd_ne hc]; exact ho) (.lst (Rps.dropR s1 c.1 r))⟩
        · rw [if_neg c] at hw; exact False.elim hw
      | _ => exact False.elim hw
  · exact False.elim hw
theorem psd_setLcOpN (i k : Nat) {y : Str} {py : Pos} {elt tg iter : Expr} {ifs : List Expr} {scope : Scope} {own : List (Str × Nat)} {lpos : Pos} {ts : List Nat} {fi : Ar} {ft : Tg} {fc : Te} {fe : Ex} (hc : X.calm = true) (hN : X.N.Nodup)
    (hsw : swapsWith (.ListComp elt [⟨tg, iter, ifs, 0⟩] scope lpos) (some (.Name y py)) pos.line X.env = pure true) (hi : PI X tg iter (tI cls W fi)) (ok : BlkOk X.N X.env.scope scope own)
    (hg : ∀ (s : Shared) (H : Hp) (C : Addr) (cl : List (Str × Addr)) (fp : List Addr), PG (X.blk s H scope (compEnvC scope cl C X.env) fp) tg (tG ts ft)) (ht : ∀ (s : Shared) (H : Hp) (C : Addr) (cl : List (Str × Addr)) (fp : List Addr), PTs (X.blk s H scope (compEnvC scope cl C X.env) fp) ifs (tT cls W0 fc))
    (he : ∀ (s : Shared) (H : Hp) (C : Addr) (cl : List (Str × Addr)) (fp : List Addr), PE (X.blk s H scope (compEnvC scope cl C X.env) fp) elt (tE cls W0 fe)) (hts : ∀ i ∈ ts, i ∈ own.map (·.2) := by decide) (hy : X.N[i]? = some y := by rfl) (hyl : X.env.scope.names.lookup y = some .local := by rfl)
    (hs : ∀ x, foldedSetIterable iter X.env x = pure x := by intro _; rfl) :
    PS X (.Assign [.Name y py] (.ListComp elt [⟨tg, iter, ifs, 0⟩] scope lpos) pos) (tS cls W (setOS i (peekNO k (lcO fi (own.map (·.2)) ft fc fe)))) :=
  PS_imp (ps_lock (ps_setLc hc hN hy hyl hsw hi ok hg ht he hs)) fun D σ H h => by
    obtain ⟨d, u, h1, h2, h3⟩ := peekNO_lock (setOS_of h)
    exact ⟨d, u, h1, h2, fun od => lc_of hts σ _ _ (h3 od)⟩
/-- {k: v} -/
def disp1N (fk fv : Ex) : Ow := fun ρ g => (fk ρ g).bind fun x g1 => (fv ρ g1).bind fun y g2 => match nkT x with
  | some k => .ok (.nd [(x, y)]) g2
  | none => .bad
end
end DL

set_option Elab.async false
set_option linter.all false
set_option maxRecDepth 100000
set_option maxHeartbeats 400000
/-! The data layer, part 32: sorted(set(e)), e a list of tuples of whole numbers. -/
namespace DL
open PySem PySem.Spec PyProof.Rows L2
variable {cls : Nat → Value}
def tupI : PyData → Option (List Int)
  | .tuple ds => intsD ds
  | _ => none
def tupsI : List PyData → Option (List (List Int))
  | [] => some []
  | d :: ds => (tupI d).bind fun n => (tupsI ds).map (n :: ·)
def encT (ns : List Int) : PyData := .tuple (ns.map PyData.int)
theorem tupI_eq {d : PyData} {ns : List Int} (h : tupI d = some ns) : d = encT ns := by
  cases d with
  | tuple ds => unfold encT; rw [← intsD_eq h]
  | _ => cases h
theorem tupsI_eq : ∀ {ds : List PyData} {nss : List (List Int)}, tupsI ds = some nss → ds = nss.map encT
  | [], nss, h => by cases h; rfl
  | d :: ds, nss, h => by
    unfold tupsI at h
    obtain ⟨n, h1, h2⟩ := Option.bind_eq_some_iff.mp h
    obtain ⟨m, h3, rfl⟩ := Option.map_eq_some_iff.mp h2
    rw [tupI_eq h1, tupsI_eq h3]
    rfl
theorem tupI_enc (ns : List Int) : tupI (encT ns) = some ns := intsD_map ns
theorem tupsI_map : ∀ nss : List (List Int), tupsI (nss.map encT) = some nss
  | [] => rfl
  | n :: r => by rw [List.map_cons, tupsI, tupI_enc, Option.bind_some, tupsI_map r]; rfl
/-- each once -/
def onceT : List (List Int) → List (List Int)
  | [] => []
  | n :: r => if n ∈ onceT r then onceT r else n :: onceT r
theorem onceT_mem : ∀ {l : List (List Int)} {x : List Int}, x ∈ onceT l ↔ x ∈ l
  | [], x => Iff.rfl
  | n :: r, x => by
    unfold onceT
    by_cases h : n ∈ onceT r
    · rw [if_pos h, onceT_mem (l := r), List.mem_cons]
      exact ⟨.inr, fun z => z.elim (fun e => by rw [e]; exact onceT_mem.mp h) id⟩
    · rw [if_neg h, List.mem_cons, List.mem_cons, onceT_mem (l := r)]
theorem onceT_nodup : ∀ l : List (List Int), (onceT l).Nodup
  | [] => List.nodup_nil
  | n :: r => by
    unfold onceT
    by_cases h : n ∈ onceT r
    · rw [if_pos h]; exact onceT_nodup r
    · rw [if_neg h]; exact List.nodup_cons.mpr ⟨h, onceT_nodup r⟩
abbrev Bt : Int := 1000000
def leT (a b : List Int) : Bool := decide (TS.code Bt a ≤ TS.code Bt b)
def setT (l : List (List Int)) : List (List Int) := (onceT l).mergeSort leT
theorem code_inj {B : Int} : ∀ {a b : List Int}, a.length = b.length → TS.Bd B a → TS.Bd B b → TS.code B a = TS.code B b → a = b
  | [], [], _, _, _, _ => rfl
  | d :: r, e :: q, hl, ha, hb, h => by
    have hl' : r.length = q.length := by simpa using hl
    have hde : d = e := by
      rcases Int.lt_trichotomy d e with z | z | z
      · have := TS.code_lt hl' ha.tail hb.tail z; omega
      · exact z
      · have := TS.code_lt hl'.symm hb.tail ha.tail z; omega
    subst hde
    have hc : TS.code B r = TS.code B q := by
      unfold TS.code at h
      rw [hl'] at h
      omega
    rw [code_inj hl' ha.tail hb.tail hc]
def okT (nss : List (List Int)) : Bool := decide (nss.length < 64) && match nss with
  | [] => true
  | n :: r => decide (1 ≤ n.length) && (n :: r).all fun m => decide (m.length = n.length) && m.all fun x => decide (0 ≤ x) && decide (x < Bt)
theorem okT_of {nss : List (List Int)} (h : okT nss = true) : nss.length < 64 ∧ ∃ d, 1 ≤ d ∧ ∀ m ∈ nss, m.length = d ∧ TS.Bd Bt m := by
  unfold okT at h
  rw [Bool.and_eq_true, decide_eq_true_eq] at h
  refine ⟨h.1, ?_⟩
  cases nss with
  | nil => exact ⟨1, Nat.le_refl _, fun _ z => nomatch z⟩
  | cons n r =>
    have h2 := h.2
    simp only [Bool.and_eq_true, decide_eq_true_eq] at h2
    refine ⟨n.length, h2.1, fun m hm => ?_⟩
    have := List.all_eq_true.mp h2.2 m hm
    rw [Bool.and_eq_true, decide_eq_true_eq] at this
    refine ⟨this.1, fun x hx => ?_⟩
    have := List.all_eq_true.mp this.2 x hx
    rw [Bool.and_eq_true, decide_eq_true_eq, decide_eq_true_eq] at this
    exact this
/-- what is sorted by the code, each once, is one list -/
theorem sorted_one {d : Nat} {l m : List (List Int)} (hl : l.Nodup) (hm : m.Nodup) (h : ∀ x, x ∈ l ↔ x ∈ m) (bd : ∀ x ∈ l, x.length = d ∧ TS.Bd Bt x) (pl : l.Pairwise fun a b => TS.code Bt a ≤ TS.code Bt b) (pm : m.Pairwise fun a b => TS.code Bt a ≤ TS.code Bt b) : l = m := by
  have hp : l.Perm m := (List.perm_ext_iff_of_nodup hl hm).mpr h
  refine hp.eq_of_pairwise (le := fun a b => TS.code Bt a ≤ TS.code Bt b) (fun a b ha hb h1 h2 => ?_) pl pm
  obtain ⟨a1, a2⟩ := bd a ha
  obtain ⟨b1, b2⟩ := bd b ((h b).mpr hb)
  exact code_inj (by omega) a2 b2 (by omega)
theorem setT_pw (l : List (List Int)) : (setT l).Pairwise fun a b => TS.code Bt a ≤ TS.code Bt b := by
  have := List.pairwise_mergeSort (le := leT) (fun a b c h1 h2 => by
    unfold leT at h1 h2 ⊢
    rw [decide_eq_true_eq] at h1 h2 ⊢
    omega) (fun a b => by
    unfold leT
    rw [Bool.or_eq_true, decide_eq_true_eq, decide_eq_true_eq]
    omega) (onceT l)
  exact this.imp fun h => by unfold leT at h; exact of_decide_eq_true h
theorem setT_nodup (l : List (List Int)) : (setT l).Nodup := (List.mergeSort_perm _ _).nodup_iff.mpr (onceT_nodup l)
theorem setT_mem {l : List (List Int)} {x : List Int} : x ∈ setT l ↔ x ∈ l := ((List.mergeSort_perm _ _).mem_iff).trans onceT_mem
def sortTO (f : Ex) : Ow := fun ρ g => (f ρ g).bind fun x g1 => match x with
  | .list ds => (match tupsI ds with
    | some nss => if okT nss = true then .ok (.lst ((setT nss).map encT)) g1 else .bad
    | none => .bad)
  | _ => .bad
theorem Rps.tups {S : Hp} : ∀ {nss : List (List Int)} {xs : List V}, Rps S xs (nss.map encT) → ∃ ks : List (Addr × List Int), xs = ks.map (fun p => V.ref p.1) ∧ nss = ks.map (·.2) ∧ ∀ p ∈ ks, Rp S (.ref p.1) (encT p.2) ∧ S p.1 = some (.tup (p.2.map V.int))
  | [], _, .nil => ⟨[], rfl, rfl, fun _ h => nomatch h⟩
  | n :: r, _, .cons q t => by
    obtain ⟨ks, rfl, h2, h3⟩ := Rps.tups t
    have q' : Rp S _ (PyData.tuple (n.map PyData.int)) := q
    cases q' with
    | @tup a vs _ e rr =>
      have ev := rr.ints
      subst ev
      refine ⟨(a, n) :: ks, rfl, by rw [h2]; rfl, fun p hp => ?_⟩
      rcases List.mem_cons.mp hp with rfl | hp
      · exact ⟨.tup e rr, e⟩
      · exact h3 p hp
section
variable {X : Cx} {W : WX} {pos : Pos} {a : Expr} {fa : Ex} {k : Nat}
theorem po_sortT {p p2 pos2 : Pos} (hr : Room k X.A) (hc : X.calm = true) (hm : X.mg "sorted" = none) (hm2 : X.mg "set" = none) (ha : PE X a (tE cls W fa)) (hg : Gl X "sorted" := by rfl) (hg2 : Gl X "set" := by rfl) (hs : starEach [a] X.env = (false, eval a X.env) :: starEach [] X.env := by rfl) (hpl2 : (backTo pos2 (starEach [] X.env)).any (·.1) = false := by rfl)
    (hs2 : starEach [.Call (.Name "set" p2) [a] [] pos2] X.env = (false, eval (.Call (.Name "set" p2) [a] [] pos2) X.env) :: starEach [] X.env := by rfl) (hpl : (backTo pos (starEach [] X.env)).any (·.1) = false := by rfl) :
    PE X (.Call (.Name "sorted" p) [.Call (.Name "set" p2) [a] [] pos2] [] pos) (tO cls W (sortTO fa)) :=
  PE_imp (pe_callB (cr_sortedT hc) hg hm PyProof.Rows.boot_sorted (pa_cons (pe_callTy (cr_setOfT hc (hu64 hr)) hg2 hm2 PyProof.Rows.boot_set (pa_cons ha pa_nil hs) (by decide) (by decide) hs hpl2) pa_nil hs2) (by decide) (by decide) hs2 hpl) fun σ H Q ⟨B, S, ρ, g, I, h⟩ => by
    unfold sortTO at h
    refine ⟨B, S, ρ, g, I, ?_⟩
    cases ea : fa ρ g with
    | bad => rw [ea] at h; exact h
    | ex n g1 => rw [ea] at h; exact h
    | ok x g1 =>
      rw [ea] at h
      simp only [R.bind_ok] at h
      intro v H1 S1 I1 e1 r1
      cases r1 with
      | @lst b xs ds hb q =>
        cases hi : tupsI ds with
        | none => simp only [hi] at h; exact False.elim h
        | some nss =>
          simp only [hi] at h
          by_cases hz : okT nss = true
          · rw [if_pos hz] at h
            obtain ⟨h64, d, hd, hbd⟩ := okT_of hz
            rw [tupsI_eq hi] at q
            obtain ⟨ks, rfl, rfl, hks⟩ := Rps.tups q
            refine ⟨b, ks, rfl, .of (I1.sub _ _ hb), fun p hp => .of (I1.sub _ _ (hks p hp).2), by rw [List.length_map] at h64; exact h64, fun sp L hsp hL1 hL2 => ?_⟩
            obtain ⟨I2, e2⟩ := I1.allocO (o := SetTO X.prog X.w sp L) hsp
            refine ⟨sp, L, d, Bt, rfl, upd_same, fun p hp => .of (I2.sub _ _ (hks p (hL1 p hp)).2), hd, fun p hp => hbd _ (List.mem_map.mpr ⟨p, hL1 p hp, rfl⟩), fun L' l hperm hnd hlen hpw hl => ?_⟩
            have hm' : ∀ x, x ∈ L'.map (·.2) ↔ x ∈ setT (ks.map (·.2)) := fun x => by
              rw [setT_mem]
              constructor
              · intro hx
                obtain ⟨p, hp, rfl⟩ := List.mem_map.mp hx
                exact List.mem_map.mpr ⟨p, hL1 p (hperm.mem_iff.mp hp), rfl⟩
              · intro hx
                obtain ⟨p, hp, rfl⟩ := List.mem_map.mp hx
                obtain ⟨p', hp', e'⟩ := List.mem_map.mp (hL2 p hp)
                rw [← e']
                exact List.mem_map.mpr ⟨p', hperm.mem_iff.mpr hp', rfl⟩
            have hbd' : ∀ x ∈ L'.map (·.2), x.length = d ∧ TS.Bd Bt x := fun x hx => by
              obtain ⟨p, hp, rfl⟩ := List.mem_map.mp hx
              exact hbd _ (List.mem_map.mpr ⟨p, hL1 p (hperm.mem_iff.mp hp), rfl⟩)
            have en := sorted_one (d := d) hnd (setT_nodup _) hm' hbd' (List.pairwise_map.mpr hpw) (setT_pw _)
            obtain ⟨I3, e3⟩ := I2.allocO (o := .lst (L'.map fun q => V.ref q.1)) hl
            have rz : Rps S1 (L'.map fun q => V.ref q.1) ((setT (ks.map (·.2))).map encT) := by
              rw [← en, List.map_map]
              have : ∀ p ∈ L', Rp S1 (.ref p.1) (encT p.2) := fun p hp => (hks p (hL1 p (hperm.mem_iff.mp hp))).1
              clear hnd hpw hm' hbd' en hperm hlen
              induction L' with
              | nil => exact .nil
              | cons p r ih => exact .cons (this p List.mem_cons_self) (ih (I2.allocO hl |>.1) (by rename_i z; exact (I2.allocO hl).2) fun p hp => this p (List.mem_cons_of_mem _ hp))
            exact h l _ _ _ I3 ((e1.trans e2).trans e3) (I2.stay hl) (none_back (e1.trans e2) hl) upd_same (.lst rz)
          · rw [if_neg hz] at h; exact False.elim h
      | _ => exact False.elim h
end
end DL

set_option Elab.async false
set_option linter.all false
set_option maxRecDepth 100000
set_option maxHeartbeats 400000
/-! The data layer, part 34: {k: v} with a key that is a tuple at any depth. -/
namespace DL
open PySem PySem.Spec PyProof.Rows L2
section
variable {X : Cx} {pos : Pos}
def tDisp1N (tk tv : TE) (K : PySem.W.Frag) : TE := fun σ H Q => ∀ p, H p = none → tk σ (upd H p (NdO p [])) fun x H1 => tv σ H1 fun y H2 => ∃ b k, x = .ref b ∧ H2 p = some (NdO p []) ∧ KeyAt K H2 k b ∧ plainK k = true ∧ Q (.ref p) (upd H2 p (NdO p [(k, b, y)]))
theorem pe_disp1N {kx vx : Expr} {tk tv : TE} (hu : X.A.units + 16 < cLine) (hk : PE X kx tk) (hv : PE X vx tv) : PE X (.Dict [some kx] [vx] pos) (tDisp1N tk tv X.K) := by
  refine ⟨fun pins s σ H Q I q => ?_⟩
  have hn := I.hok.fresh (Nat.le_refl s.heap.objs.size)
  have I1 := nd_new I
  have q0 := q _ hn
  have walk : wpAny (model X.prog X.w) X.A (evalPairs (pairTrees [some kx] [vx] X.env pos)) (fun vs s1 => ∃ ps, CarriesH (nestedKind X.prog X.w) s1.heap vs ps ∧ s1.heap.DictOfH (nestedKind X.prog X.w) s.heap.objs.size [] ∧
      ∀ h' tk, h'.DictOfH (nestedKind X.prog X.w) s.heap.objs.size (storedAllH [] ps) → Heap.SameBut s.heap.objs.size s1.heap h' → ∃ x H', Inv X pins σ H' { s1 with heap := h', toks := tk } ∧ RelV x (.ref s.heap.objs.size) ∧ Q x H') X.xe { s with heap := s.heap.push { cls := .type "dict", data := .dict #[] } } := by
    refine pairTrees_cons_walk (thn (hk.run pins _ σ _ _ I1 q0) fun u s1 ⟨x, H1, I2, rx, q1⟩ => thn (hv.run pins s1 σ H1 _ I2 q1) fun u2 s2 ⟨y, H2, I3, ry, b, k, ex, e, kb, pk, q2⟩ => pairTrees_nil_walk ?_)
    subst ex
    obtain rfl : u = Value.ref b := rx
    obtain ⟨us, r, dd, hd, hl⟩ := ndok_keyed I3 (.inl e) (fun x hx => nomatch hx)
    cases r
    refine ⟨[(k, b, u2)], ⟨rfl, rfl, key_is I3 kb, trivial⟩, dd, fun h' tk dd' hs => ⟨.ref s.heap.objs.size, _, ?_, rfl, q2⟩⟩
    have e1 : storedAllH ([] : List (NestedKey × Addr × Value)) [(k, b, u2)] = [(k, b, u2)] := rfl
    rw [e1] at dd'
    have ok := storedH_obj (ys := [(k, b, y)]) hd (by rw [sizeLine_eq]; show 1 ≤ _; decide) (fun x hx => by rw [List.mem_singleton.mp hx]; exact pk) (.cons ⟨rfl, rfl, ry⟩ .nil) dd'
    have he : ∃ q, h'.get? s.heap.objs.size = some q := by obtain ⟨o, _, _, ho, _⟩ := dd'; exact ⟨o, ho⟩
    exact d_write I3 (by rw [e]; exact True.intro) hs he (ndok_obj ok)
  rw [arm_eval_Dict, zip_pairTrees [some kx] [vx] X.env pos rfl rfl, dictDisplay_pairs (pairTrees [some kx] [vx] X.env pos) (fun z => nomatch z) (by show 1 < 17; decide)]
  exact wpAny_bind (wpAny_standAt (wpAny_bind (wpAny_subDictH (knd := nestedKind X.prog X.w) (Q := fun d s' => wpAny (model X.prog X.w) X.A (pure (Value.ref d)) (fun u s' => ∃ x H', Inv X pins σ H' s' ∧ RelV x u ∧ Q x H') X.xe s') (show X.A.units + 8 < cLine by omega) (by show 1 ≤ 15; decide)
    (wpAny_mono walk (fun vs s₁ h₁ => by obtain ⟨ps, hc, hm, hq⟩ := h₁; exact ⟨ps, hc, hm, fun h' tk a b => wpAny_pure (hq h' tk a b)⟩) fun _ _ e => e))))
end
section
variable {X : Cx} {cls : Nat → Value} {W : WX} {pos : Pos} {j : Nat}
theorem po_disp1N {k v : Expr} {fk fv : Ex} (hr : Room j X.A) (hk : PE X k (tE cls W fk)) (hv : PE X v (tE cls W fv)) : PE X (.Dict [some k] [v] pos) (tO cls W (disp1N fk fv)) :=
  PE_imp (pe_disp1N (by have := hu64 hr; omega) hk hv) fun σ H Q ⟨B, S, ρ, g, I, h⟩ => by
    intro p hp
    unfold disp1N at h
    obtain ⟨I0, e0⟩ := I.allocO (o := NdO p []) hp
    refine ⟨B, S, ρ, g, I0, ?_⟩
    cases ek : fk ρ g with
    | bad => rw [ek] at h; exact h
    | ex n g1 => rw [ek] at h; exact fun H' S' I' e' => h H' S' I' (e0.trans e')
    | ok x g1 =>
      rw [ek] at h
      simp only [R.bind_ok] at h
      intro vx H1 S1 I1 e1 r1
      refine ⟨B, S1, ρ, g1, I1, ?_⟩
      cases ev : fv ρ g1 with
      | bad => rw [ev] at h; exact h
      | ex n g2 => rw [ev] at h; exact fun H' S' I' e' => h H' S' I' ((e0.trans e1).trans e')
      | ok y g2 =>
        rw [ev] at h
        simp only [R.bind_ok] at h
        intro vy H2 S2 I2 e2 r2
        cases hz : nkT x with
        | none => rw [hz] at h; exact False.elim h
        | some kk =>
          rw [hz] at h
          simp only at h
          have e12 := e1.trans e2
          have h2p : H2 p = some (NdO p []) := e12.keep p _ upd_same (I.neX' (Same.refl _) hp)
          have s0p : S p = none := I.stay hp
          have s2p : S2 p = none := none_of e12 (by rw [upd_same]; simp) s0p
          obtain ⟨hk1, hk2, hk3, ds, rfl⟩ := nkT_of hz
          obtain ⟨c, rfl, kb⟩ := key_at (K := X.K) I2.sub (r1.mono e2.base) hz
          refine ⟨c, kk, rfl, h2p, kb, nkD_plain hk1, ?_⟩
          have e02 : Gr B H S H2 S2 := e0.trans e12
          obtain ⟨I3, e3⟩ := I.swapNew I2 e02 (NdO p [(kk, c, vy)]) s2p hp
          exact h p (NdO p [(kk, c, vy)]) _ _ I3 e3 s2p hp upd_same (.nd (.cons hk1 hk2 hk3 (r1.mono e2.base) r2 .nil))
end
end DL

set_option Elab.async false
set_option linter.all false
set_option maxRecDepth 100000
set_option maxHeartbeats 400000
/-! The data layer, part 35: sum(list or tuple of whole numbers). -/
namespace DL
open PySem PySem.Spec PyProof.Rows L2
def rSumA (K : PySem.W.Frag) : List V → Hp → VK → Prop := fun vs H Q => ∃ (a : Addr) (ns : List Int), vs = [V.ref a] ∧ (SqL K H a (ns.map V.int) ∨ SqT K H a (ns.map V.int)) ∧ Q (.int ns.sum) H
section
variable {X : Cx}
theorem cr_sumA (hc : X.calm = true) : CallR X (.builtin "sum") (rSumA X.K) := by
  intro pins s σ H vs us Q I r h
  obtain ⟨a, ns, rfl, hs, q⟩ := h
  rw [Vals.ref1 r]
  rcases hs with hs | hs
  · obtain ⟨its, rv, hl, _⟩ := I.list hs
    exact sum_raw (I.ok.hd hc) hl.isList rv.ints fun h' tk t' hk => ⟨.int _, H, I.kept hk, ⟨_, rfl⟩, q⟩
  · obtain ⟨its, rv, hl, _⟩ := I.tuple hs
    have hi := rv.ints
    obtain ⟨xs, hx⟩ := hi.allInts.items
    have hn : numsOf its.toArray.toList = ns := by rw [show its.toArray.toList = its from rfl, hi.numsOf]
    rw [hx] at hl hn
    rw [nums_intItems] at hn
    refine PySem.W.ktm_sumG (I.ok.hd hc) hl fun h' tk t' hk => ⟨.int _, H, I.kept hk, ⟨_, rfl⟩, ?_⟩
    rw [preSum_eq, List.take_of_length_le (by simp), hn]
    exact q
end
def sumA : PyData → Option PyData
  | .list ds => (intsD ds).map fun ns => .int ns.sum
  | .tuple ds => (intsD ds).map fun ns => .int ns.sum
  | _ => none
theorem sp_sumA {K : PySem.W.Frag} : Spec1c (rSumA K) sumA := fun _ B σ H S ρ g x d v Q e I r k => by
  cases r with
  | @lst a xs ds h q =>
    have e : (intsD ds).map (fun ns => PyData.int ns.sum) = some d := e
    cases hi : intsD ds with
    | none => rw [hi] at e; cases e
    | some ns =>
      rw [hi] at e
      cases e
      rw [intsD_eq hi] at q
      have ex := q.ints
      subst ex
      exact ⟨a, ns, rfl, .inl (.of (I.sub _ _ h)), k _ H S I .refl (.int _)⟩
  | @tup a xs ds h q =>
    have e : (intsD ds).map (fun ns => PyData.int ns.sum) = some d := e
    cases hi : intsD ds with
    | none => rw [hi] at e; cases e
    | some ns =>
      rw [hi] at e
      cases e
      rw [intsD_eq hi] at q
      have ex := q.ints
      subst ex
      exact ⟨a, ns, rfl, .inr (.of (I.sub _ _ h)), k _ H S I .refl (.int _)⟩
  | _ => cases e
section
variable {X : Cx} {cls : Nat → Value} {W : WX} {pos : Pos} {a : Expr} {fa : Ex}
theorem pd_sumA {p : Pos} (hc : X.calm = true) (hm : X.mg "sum" = none) (ha : PE X a (tE cls W fa)) (hg : Gl X "sum" := by rfl) (hs : starEach [a] X.env = (false, eval a X.env) :: starEach [] X.env := by rfl) : PE X (.Call (.Name "sum" p) [a] [] pos) (tE cls W (unD sumA fa)) :=
  pd_call1B (cr_sumA hc) sp_sumA hm boot_sum ha hg (by decide) (by decide) hs
end
end DL

set_option Elab.async false
set_option linter.all false
set_option maxRecDepth 100000
set_option maxHeartbeats 400000
/-! The data layer, part 36: objects. The object whose method runs stands in the place of the draws: its attributes are the state. -/
namespace DL
open PySem PySem.Spec PyProof.Rows L2
variable {cls : Nat → Value}
/-! ### attributes -/
def putO (n : Str) (x : FV) : List (Str × FV) → List (Str × FV)
  | [] => [(n, x)]
  | (m, y) :: r => if m = n then (m, x) :: r else (m, y) :: putO n x r
theorem lookup_putO (n : Str) (x : FV) : ∀ (fs : List (Str × FV)) (m : Str), (putO n x fs).lookup m = if m = n then some x else fs.lookup m
  | [], m => by
    unfold putO
    rw [List.lookup_cons]
    by_cases h : m = n
    · rw [if_pos h, h]; simp
    · rw [if_neg h]
      have : (m == n) = false := by simpa using h
      rw [this]
  | (k, y) :: r, m => by
    unfold putO
    by_cases hk : k = n
    · rw [if_pos hk, List.lookup_cons, List.lookup_cons]
      by_cases h : m = n
      · rw [if_pos h, h, hk]; simp
      · rw [if_neg h]
        have : (m == k) = false := by rw [hk]; simpa using h
        rw [this]
    · rw [if_neg hk, List.lookup_cons, List.lookup_cons, lookup_putO n x r m]
      by_cases h : m = k
      · have e : (m == k) = true := by simpa using h
        have hmn : ¬ m = n := by rw [h]; exact hk
        rw [e, if_neg hmn, if_neg hmn]
      · have e : (m == k) = false := by simpa using h
        rw [e]
theorem names_put (n : Str) (x : FV) (v : V) : ∀ {vs : List (Str × V)} {fs : List (Str × FV)}, vs.map (·.1) = fs.map (·.1) → (putF n v vs).map (·.1) = (putO n x fs).map (·.1)
  | [], [], _ => rfl
  | [], _ :: _, h => by cases h
  | _ :: _, [], h => by cases h
  | (a, u) :: vs, (b, w) :: fs, h => by
    rw [List.map_cons, List.map_cons] at h
    injection h with h1 h2
    have h1 : a = b := h1
    subst h1
    have e1 : putF n v ((a, u) :: vs) = if a = n then (a, v) :: vs else (a, u) :: putF n v vs := rfl
    rw [e1]
    unfold putO
    by_cases hk : a = n
    · rw [if_pos hk, if_pos hk, List.map_cons, List.map_cons, h2]
    · rw [if_neg hk, if_neg hk, List.map_cons, List.map_cons, names_put n x v h2]
/-- the class c of the table, its attributes' names known to no class -/
structure ClsK (K : PySem.W.Frag) (cls : Nat → Value) (c : Nat) (C : Addr) : Prop where
  at_ : cls c = .ref C
  cl : Cls K C
section
variable {B : Bs cls} {σ : L2.St} {H S : Hp} {ρ : Nv} {g : G}
theorem Good.obj {c : Nat} {fs : List (Str × FV)} (I : Good B σ H S ρ (some (.ob c fs))) {C : Addr} (hc : cls c = .ref C) : ∃ dx vs, H B.A = some (.ins C dx vs) ∧ FsAt B.A H S vs fs := by
  obtain ⟨_, C', dx, vs, e, h1, h2⟩ := (show DrAt B H S (some (.ob c fs)) from I.dr)
  rw [hc] at e
  cases e
  exact ⟨dx, vs, h1, h2⟩
end
/-! ### self.a, a datum -/
/-- slot i is self, of the class c -/
def atD (i c : Nat) (n : Str) : Ex := fun ρ g => match ρ[i]?, g with
  | some (.dx _), some (.ob k fs) => if k = c then (match fs.lookup n with
    | some (.sh d) => .ok d g
    | _ => .bad) else .bad
  | _, _ => .bad
section
variable {X : Cx} {cls : Nat → Value} {W : WX} {pos p : Pos} {a b e : Expr} {fa fb fe : Ex} {D : Ends} {σ : L2.St} {H : Hp} {j : Nat} {x n : Str} {C : Addr} {c : Nat}
theorem pd_at (i : Nat) (hc : ClsK X.K cls c C) (hn : NoAttr X.K C n) (hN : X.N[i]? = some x := by rfl) (hv : Vis X.env.scope x := by first | exact Or.inl rfl | exact Or.inr (Or.inl rfl) | exact Or.inr (Or.inr rfl)) (hd : (x == ("__debug__" : Str)) = false := by decide) (hcd : (x == ("__classdict__" : Str)) = false := by decide)
    (hb : attributeBase (.Name x p) n X.env (eval (.Name x p) X.env) = eval (.Name x p) X.env := by rfl) : PE X (.Attribute (.Name x p) n pos) (tE cls W (atD i c n)) :=
  PE_imp (pe_fld (pe_var hN hv hd hcd) hb) fun σ H Q ⟨B, S, ρ, g, I, h⟩ => by
    unfold atD at h
    split at h
    · rename_i b k fs hi
      by_cases hk : k = c
      · subst hk
        rw [if_pos rfl] at h
        split at h
        · rename_i d hl
          obtain ⟨dx, vs, h1, F⟩ := I.obj hc.at_
          obtain ⟨v, h2, h3⟩ := F.sh n d hl
          exact ⟨_, (I.dw i hi).1, B.A, C, dx, vs, v, rfl, h1, hc.cl, hn, h2, h v H S I .refl h3⟩
        · exact False.elim h
      · rw [if_neg hk] at h; exact False.elim h
    · exact False.elim h
/-! ### an object's own dict: is the key there, and x[k] = v -/
def inAtD (neg : Bool) (i c : Nat) (n : Str) (fk : Ex) : Ex := fun ρ g => (fk ρ g).bind fun y g1 => match ρ[i]?, g1 with
  | some (.dx _), some (.ob k fs) => if k = c then (match fs.lookup n, nkT y with
    | some (.ow (.nd kvs)), some kk => .ok (.bool (neg ^^ kvs.any fun kv => decide (nkD kv.1 = some kk))) g1
    | _, _ => .bad) else .bad
  | _, _ => .bad
theorem inAt_of {neg : Bool} {i : Nat} (hc : ClsK X.K cls c C) (hn : NoAttr X.K C n) {B : Bs cls} {S : Hp} {ρ : Nv} {g : G} {Q : VK} (I : Good B σ H S ρ g) (h : EO cls W B σ H S ρ Q (inAtD neg i c n fa ρ g)) :
    EO cls W B σ H S ρ (fun y H1 => tFld X.K (tVar i) n σ H1 fun z H2 => ∃ a b xs k, z = .ref a ∧ y = .ref b ∧ Rd H2 a (NdO a xs) ∧ (∀ r ∈ xs, KeyAt X.K H2 r.1 r.2.1) ∧ KeyAt X.K H2 k b ∧ Q (.bl (neg ^^ (atN xs k).isSome)) H2) (fa ρ g) := by
  unfold inAtD at h
  cases ea : fa ρ g with
  | bad => rw [ea] at h; exact h
  | ex m g1 => rw [ea] at h; exact h
  | ok y g1 =>
    rw [ea] at h
    simp only [R.bind_ok] at h
    intro v H1 S1 I1 e1 r1
    replace h := EO_gr e1 h
    split at h
    · rename_i b k fs hi
      by_cases hk : k = c
      · subst hk
        rw [if_pos rfl] at h
        split at h
        · rename_i kvs kk hl hz
          obtain ⟨dx, vs, h1, F⟩ := I1.obj hc.at_
          obtain ⟨l, o, h2, h3, h4, h5, h6, _⟩ := F.ow n _ hl
          cases h6 with
          | @nd _ xs r0 =>
            obtain ⟨d, rfl, kb⟩ := key_at (K := X.K) I1.sub r1 hz
            refine ⟨_, (I1.dw i hi).1, B.A, C, dx, vs, .ref l, rfl, h1, hc.cl, hn, h2, l, d, xs, kk, rfl, rfl, .of h5, Rpn.keys I1.sub r0, kb, ?_⟩
            have e : (kvs.any fun kv => decide (nkD kv.1 = some kk)) = (atN xs kk).isSome := by
              rcases Rpn.at kk r0 with ⟨_, v2, v3⟩ | ⟨d', v', _, v2, _, v3⟩
              · rw [v2, v3]; rfl
              · rw [v2, v3]; rfl
            rw [e] at h
            exact h _ _ _ I1 .refl (.bl _)
        · exact False.elim h
      · rw [if_neg hk] at h; exact False.elim h
    · exact False.elim h
theorem ptd_inAt (i : Nat) {p1 p2 : Pos} (hr : Room j X.A) (hc : ClsK X.K cls c C) (hn : NoAttr X.K C n) (ha : PE X a (tE cls W fa)) (hN : X.N[i]? = some x := by rfl) (hv : Vis X.env.scope x := by first | exact Or.inl rfl | exact Or.inr (Or.inl rfl) | exact Or.inr (Or.inr rfl)) (hd : (x == ("__debug__" : Str)) = false := by decide) (hcd : (x == ("__classdict__" : Str)) = false := by decide)
    (hb : attributeBase (.Name x p1) n X.env (eval (.Name x p1) X.env) = eval (.Name x p1) X.env := by rfl) (hm : behindInMarks .In (.Attribute (.Name x p1) n p2) = false := by rfl) :
    PT X (.Compare a [.In] [.Attribute (.Name x p1) n p2] pos) (tT cls W (boolD (inAtD false i c n fa))) :=
  PT_imp (pt_cmpR (op_inN (by have := hu64 hr; omega)) ha (pe_fld (pe_var hN hv hd hcd) hb) hm) fun σ H Q h => by
    obtain ⟨B, S, ρ, g, I, h⟩ := boolD_of σ H Q h
    refine ⟨B, S, ρ, g, I, ?_⟩
    have h := inAt_of hc hn I h
    cases ea : fa ρ g with
    | bad => rw [ea] at h; exact h
    | ex m g1 => rw [ea] at h; exact h
    | ok y g1 =>
      rw [ea] at h
      intro v H1 S1 I1 e1 r1
      obtain ⟨z, q0, A, C', dx, vs, w, q1, q2, q3, q4, q5, l, d, xs, k, q6, q7, q8, q9, q10, q11⟩ := h v H1 S1 I1 e1 r1
      refine ⟨z, q0, A, C', dx, vs, w, q1, q2, q3, q4, q5, l, d, xs, k, q6, q7, q8, q9, q10, ?_⟩
      rw [Bool.false_xor] at q11
      exact q11
end
end DL

set_option Elab.async false
set_option linter.all false
set_option maxRecDepth 100000
set_option maxHeartbeats 400000
/-! The data layer, part 37: what is evaluated without the object; methods and their calls. -/
namespace DL
open PySem PySem.Spec PyProof.Rows L2
variable {cls : Nat → Value}
/-! ### without the object -/
def noDx1 : Sl → Sl
  | .dx _ => .no
  | z => z
def noDx (ρ : Nv) : Nv := ρ.map noDx1
theorem noDx_at {ρ : Nv} {j : Nat} {z : Sl} (h : (noDx ρ)[j]? = some z) (hz : z ≠ .no) : ρ[j]? = some z ∧ ∀ b, z ≠ .dx b := by
  unfold noDx at h
  rw [List.getElem?_map] at h
  cases e : ρ[j]? with
  | none => rw [e] at h; cases h
  | some w =>
    rw [e] at h
    have h : noDx1 w = z := Option.some.inj h
    cases w with
    | dx b => exact absurd h.symm hz
    | no => exact absurd h.symm hz
    | sh d => subst h; exact ⟨rfl, fun b z => nomatch z⟩
    | ow d => subst h; exact ⟨rfl, fun b z => nomatch z⟩
    | sc d => subst h; exact ⟨rfl, fun b z => nomatch z⟩
section
variable {B : Bs cls} {σ : L2.St} {H S H' S' : Hp} {ρ ρ' : Nv} {g : G}
abbrev bs0 (B : Bs cls) (S : Hp) : Bs cls := ⟨0, false, S, fun _ => none, B.C, .non, false⟩
theorem noX {S0 H S : Hp} {a : Addr} : ¬ Exm (bs0 B S0) H S a := fun x => Bool.noConfusion x.1
theorem Good.pure (I : Good B σ H S ρ g) : Good (bs0 B S) σ H S (noDx ρ) none := by
  refine ⟨⟨I.sub, fun a o h => (nomatch h), Same.refl _, fun a h => .inl h, fun a h => absurd rfl h, (fun z => nomatch z), rfl, fun a _ x => absurd x noX⟩, by unfold noDx; rw [List.length_map]; exact I.len, fun i d h => ?_, fun i {b} h => ?_, fun i n h => ?_, fun i b h => ?_, fun i j b c a h1 h2 h3 h4 => ?_, fun i rows a cs h1 h2 h3 => ?_⟩
  · exact I.sh i d (noDx_at h (fun z => nomatch z)).1
  · exact absurd rfl ((noDx_at h (fun z => nomatch z)).2 b)
  · have := I.sw i n (noDx_at h (fun z => nomatch z)).1
    cases n with
    | zero => exact this
    | succ n => exact this
  · obtain ⟨a, o, h1, h2, h3, h4, h5, h6⟩ := I.ow i b (noDx_at h (fun z => nomatch z)).1
    exact ⟨a, o, h1, h2, noX, rfl, h5, h6⟩
  · exact I.ap i j b c a (noDx_at h1 (fun z => nomatch z)).1 (noDx_at h2 (fun z => nomatch z)).1 h3 h4
  · obtain ⟨R, A1, A2⟩ := I.mx i rows a cs (noDx_at h1 (fun z => nomatch z)).1 h2 h3
    exact ⟨⟨R.nd, fun k c row e1 e2 => by
      obtain ⟨k1, k2, k3, k4⟩ := R.at_ k c row e1 e2
      exact ⟨k1, noX, rfl, k4⟩⟩, fun j b a' k1 => A1 j b a' (noDx_at k1 (fun z => nomatch z)).1, fun j rows' a' cs' hj k1 => A2 j rows' a' cs' hj (noDx_at k1 (fun z => nomatch z)).1⟩
/-- back: nothing that stood was changed -/
theorem Good.unpure {S0 : Hp} {g' : G} {ρ0 : Nv} {σ' : L2.St} (I : Good B σ H S ρ g) (I' : Good (bs0 B S0) σ' H' S' ρ0 g') (e : Gr (bs0 B S0) H S H' S') : Good B σ H' S' ρ g ∧ Gr B H S H' S' ∧ ∀ a o, H a = some o → H' a = some o := by
  have k : ∀ a o, H a = some o → H' a = some o := fun a o h => e.keep a o h noX
  have kA : B.live = true → H' B.A = H B.A := fun hl => by
    cases q : H B.A with
    | none => exact absurd q (I.dr.live hl)
    | some o => exact k _ _ q
  have gr : Gr B H S H' S' := ⟨fun a o h _ => k a o h, e.base, e.new, e.there, fun a x => x.back e.base kA⟩
  refine ⟨I.grow gr I'.sub (I.dr.mono e.base (fun a x => ?_) fun a x z => ?_), gr, k⟩
  · cases q : H a with
    | none => exact absurd q (I.dr.exm x)
    | some o => exact k _ _ q
  · cases q : S' a with
    | none => rfl
    | some o =>
      rcases e.new a (by rw [q]; simp) with w | w
      · exact absurd z w
      · exact absurd w (I.dr.exm x)
end
/-- f, evaluated without the object -/
def pureE (f : Ex) : Ex := fun ρ g => match f (noDx ρ) none with
  | .ok d none => .ok d g
  | .ex n none => .ex n g
  | _ => .bad
def pureT (f : Te) : Te := fun ρ g => match f (noDx ρ) none with
  | .ok d none => .ok d g
  | .ex n none => .ex n g
  | _ => .bad
def pureA (f : Ar) : Ar := fun ρ g => match f (noDx ρ) none with
  | .ok d none => .ok d g
  | .ex n none => .ex n g
  | _ => .bad
def pureO (f : Ow) : Ow := fun ρ g => match f (noDx ρ) none with
  | .ok d none => .ok d g
  | .ex n none => .ex n g
  | _ => .bad
section
variable {X : Cx} {cls : Nat → Value} {W : WX} {pos p : Pos} {a b e o : Expr} {es : List Expr} {fa fb fe : Ex} {D : Ends} {σ : L2.St} {H : Hp} {j k : Nat} {x n : Str} {C : Addr} {c : Nat}
theorem pd_pure (h : PE X e (tE cls W fa)) : PE X e (tE cls W (pureE fa)) := PE_imp h fun σ H Q ⟨B, S, ρ, g, I, h⟩ => by
  unfold pureE at h
  refine ⟨bs0 B S, S, noDx ρ, none, I.pure, ?_⟩
  cases ea : fa (noDx ρ) none with
  | bad => rw [ea] at h; exact h
  | ex m g1 =>
    rw [ea] at h
    cases g1 with
    | none =>
      intro H' S' I' e'
      obtain ⟨J, e2, _⟩ := I.unpure I' e'
      exact h H' S' J e2
    | some _ => exact False.elim h
  | ok d g1 =>
    rw [ea] at h
    cases g1 with
    | none =>
      intro v H' S' I' e' r
      obtain ⟨J, e2, _⟩ := I.unpure I' e'
      exact h v H' S' J e2 r
    | some _ => exact False.elim h
theorem ptd_pure {f : Te} (h : PT X e (tT cls W f)) : PT X e (tT cls W (pureT f)) := PT_imp h fun σ H Q ⟨B, S, ρ, g, I, h⟩ => by
  unfold pureT at h
  refine ⟨bs0 B S, S, noDx ρ, none, I.pure, ?_⟩
  cases ea : f (noDx ρ) none with
  | bad => rw [ea] at h; exact h
  | ex m g1 =>
    rw [ea] at h
    cases g1 with
    | none =>
      intro H' S' I' e'
      obtain ⟨J, e2, _⟩ := I.unpure I' e'
      exact h H' S' J e2
    | some _ => exact False.elim h
  | ok d g1 =>
    rw [ea] at h
    cases g1 with
    | none =>
      intro H' S' I' e'
      obtain ⟨J, e2, _⟩ := I.unpure I' e'
      exact h H' S' J e2
    | some _ => exact False.elim h
theorem pad_pure {f : Ar} (h : PA X es (tA cls W f)) : PA X es (tA cls W (pureA f)) := PA_imp h fun σ H Q ⟨B, S, ρ, g, I, h⟩ => by
  unfold pureA at h
  refine ⟨bs0 B S, S, noDx ρ, none, I.pure, ?_⟩
  cases ea : f (noDx ρ) none with
  | bad => rw [ea] at h; exact h
  | ex m g1 =>
    rw [ea] at h
    cases g1 with
    | none =>
      intro H' S' I' e'
      obtain ⟨J, e2, _⟩ := I.unpure I' e'
      exact h H' S' J e2
    | some _ => exact False.elim h
  | ok d g1 =>
    rw [ea] at h
    cases g1 with
    | none =>
      intro v H' S' I' e' r
      obtain ⟨J, e2, _⟩ := I.unpure I' e'
      exact h v H' S' J e2 r
    | some _ => exact False.elim h
theorem po_pure {f : Ow} (h : PE X e (tO cls W f)) : PE X e (tO cls W (pureO f)) := PE_imp h fun σ H Q ⟨B, S, ρ, g, I, h⟩ => by
  unfold pureO at h
  refine ⟨bs0 B S, S, noDx ρ, none, I.pure, ?_⟩
  cases ea : f (noDx ρ) none with
  | bad => rw [ea] at h; exact h
  | ex m g1 =>
    rw [ea] at h
    cases g1 with
    | none =>
      intro H' S' I' e'
      obtain ⟨J, e2, _⟩ := I.unpure I' e'
      exact h H' S' J e2
    | some _ => exact False.elim h
  | ok d g1 =>
    rw [ea] at h
    cases g1 with
    | none =>
      intro l u H' S' I' e' n1 n2 ho r
      obtain ⟨J, e2, _⟩ := I.unpure I' e'
      exact h l u H' S' J e2 n1 n2 ho r
    | some _ => exact False.elim h
end
/-! ### the object changes -/
section
variable {B : Bs cls} {σ : L2.St} {H S : Hp} {ρ : Nv}
theorem names_same {n : Str} {x : FV} : ∀ {fs : List (Str × FV)}, fs.lookup n ≠ none → (putO n x fs).map (·.1) = fs.map (·.1)
  | [], h => absurd rfl h
  | (m, y) :: r, h => by
    unfold putO
    by_cases hm : m = n
    · rw [if_pos hm, List.map_cons, List.map_cons]
    · rw [if_neg hm, List.map_cons, List.map_cons, names_same (fs := r) fun z => h (by
        rw [List.lookup_cons]
        have : (n == m) = false := by simpa using Ne.symm hm
        rw [this]; exact z)]
theorem Good.mutA {c : Nat} {fs : List (Str × FV)} (I : Good B σ H S ρ (some (.ob c fs))) {C dx l : Addr} {vs : List (Str × V)} (hc : cls c = .ref C) (h1 : H B.A = some (.ins C dx vs)) {n : Str} {b b' : Ob} {o' : HO} (hl : fs.lookup n = some (.ow b)) (hv : vs.lookup n = some (.ref l)) (r : ObAt S l b' o') (nm : ∀ rows, b' ≠ .mat rows) :
    Good B σ (upd H l o') S ρ (some (.ob c (putO n (.ow b') fs))) := by
  obtain ⟨hlv, _⟩ := (show DrAt B H S (some (.ob c fs)) from I.dr)
  obtain ⟨dx', vs', h1', F⟩ := I.obj hc
  rw [h1] at h1'
  cases h1'
  obtain ⟨l', o, q1, q2, q3, q4, q5, _⟩ := F.ow n b hl
  rw [hv] at q1
  cases q1
  have xl : Exm B H S l := ⟨hlv, .inr ⟨q2, C, dx, vs, n, h1, hv⟩⟩
  have xiff : ∀ {o : HO} {c : Addr}, Exm B (upd H l o) S c ↔ Exm B H S c := Exm.upd_iff fun _ => q3
  have nX : ∀ {a : Addr}, ¬ Exm B H S a → a ≠ l := fun h z => h (by rw [z]; exact xl)
  refine ⟨⟨fun a o q => ?_, fun a o q nx => ?_, I.base, I.new, fun a q => ?_, I.no, ⟨hlv, C, dx, vs, hc, by rw [upd_ne (Ne.symm q3)]; exact h1, ?_, fun m d hm => ?_, fun m d hm => ?_, fun m m' d d' a h2 h3 h4 h5 => ?_⟩, fun a h x => I.own a h (xiff.mp x)⟩, I.len, I.sh, I.dw, I.sw, fun i d h => ?_, I.ap, I.mxMove (Same.refl _) (fun i b h => ⟨⟨b, h⟩, rfl⟩) (fun i rows h => h) (fun i rows a h h' => ?_) fun i rows a cs _ h h' h2' y hy => ?_⟩
  · rw [upd_ne (ne_of_none q q2)]; exact I.sub _ _ q
  · have : a ≠ l := fun z => nx (by
      subst z
      exact I.own a (fun _ => by rw [q]; simp) xl)
    rw [upd_ne this]; exact I.keep a o q nx
  · by_cases ha : a = l
    · subst ha; rw [upd_same]; simp
    · rw [upd_ne ha]; exact I.there a q
  · rw [names_same (by rw [hl]; simp)]; exact F.names
  · rw [lookup_putO] at hm
    by_cases e : m = n
    · rw [if_pos e] at hm; cases hm
    · rw [if_neg e] at hm; exact F.sh m d hm
  · rw [lookup_putO] at hm
    by_cases e : m = n
    · rw [if_pos e] at hm
      cases hm
      subst e
      exact ⟨l, o', hv, q2, q3, upd_same, r, nm⟩
    · rw [if_neg e] at hm
      obtain ⟨a, u, p1, p2, p3, p4, p5, p6⟩ := F.ow m d hm
      have : a ≠ l := fun z => e (F.ap m n d b a hm hl p1 (by rw [z]; exact hv))
      exact ⟨a, u, p1, p2, p3, by rw [upd_ne this]; exact p4, p5, p6⟩
  · have old : ∀ m d, (putO n (.ow b') fs).lookup m = some (.ow d) → ∃ d', fs.lookup m = some (.ow d') := fun m d h => by
      rw [lookup_putO] at h
      by_cases e : m = n
      · rw [e]; exact ⟨b, hl⟩
      · rw [if_neg e] at h; exact ⟨d, h⟩
    obtain ⟨e1, h2⟩ := old m d h2
    obtain ⟨e2, h3⟩ := old m' d' h3
    exact F.ap m m' e1 e2 a h2 h3 h4 h5
  · obtain ⟨a, u, p1, p2, p3, p4, p5, p6⟩ := I.ow i d h
    exact ⟨a, u, p1, p2, fun x => p3 (xiff.mp x), p4, by rw [upd_ne (nX p3)]; exact p5, p6⟩
  · obtain ⟨a0, u, p1, p2, p3, p4, p5, p6⟩ := I.ow i _ h
    have e := addr_of h' p1
    subst e
    exact upd_ne (nX p3)
  · have R := (I.mx i rows a cs h h' h2').1.row (I.rowsAt h h' h2') hy
    exact ⟨upd_ne (nX R.2.1), R.1, xiff.mp⟩
/-- an attribute takes a datum -/
theorem Good.putA {c : Nat} {fs : List (Str × FV)} (I : Good B σ H S ρ (some (.ob c fs))) {C dx : Addr} {vs : List (Str × V)} (hc : cls c = .ref C) (h1 : H B.A = some (.ins C dx vs)) {n : Str} {v : V} {d : PyData} (r : Rp S v d) :
    Good B σ (upd H B.A (.ins C dx (putF n v vs))) S ρ (some (.ob c (putO n (.sh d) fs))) := by
  obtain ⟨hlv, _⟩ := (show DrAt B H S (some (.ob c fs)) from I.dr)
  obtain ⟨dx', vs', h1', F⟩ := I.obj hc
  rw [h1] at h1'
  cases h1'
  have xA : Exm B H S B.A := ⟨hlv, .inl rfl⟩
  have no := I.no hlv
  have bk : ∀ {a : Addr}, Exm B (upd H B.A (.ins C dx (putF n v vs))) S a → Exm B H S a := fun {a} ⟨_, x⟩ => by
    rcases x with x | ⟨x1, C', dx', ws, m, e, l⟩
    · exact ⟨hlv, .inl x⟩
    · rw [upd_same] at e
      cases e
      rw [lookup_putF] at l
      by_cases e : m = n
      · rw [if_pos e] at l
        cases l
        cases r with
        | lst k _ => rw [x1] at k; cases k
        | tup k _ => rw [x1] at k; cases k
        | dic k _ => rw [x1] at k; cases k
        | dicN k _ => rw [x1] at k; cases k
      · rw [if_neg e] at l
        exact ⟨hlv, .inr ⟨x1, C, dx, vs, m, h1, l⟩⟩
  have nX : ∀ {a : Addr}, ¬ Exm B H S a → a ≠ B.A := fun h z => h (by rw [z]; exact xA)
  refine ⟨⟨fun a o q => ?_, fun a o q nx => ?_, I.base, I.new, fun a q => ?_, I.no, ⟨hlv, C, dx, putF n v vs, hc, upd_same, names_put n _ v F.names, fun m e hm => ?_, fun m e hm => ?_, fun m m' e e' a h2 h3 h4 h5 => ?_⟩, fun a h x => I.own a h (bk x)⟩, I.len, I.sh, I.dw, I.sw, fun i e h => ?_, I.ap, I.mxMove (Same.refl _) (fun i b h => ⟨⟨b, h⟩, rfl⟩) (fun i rows h => h) (fun i rows a h h' => ?_) fun i rows a cs _ h h' h2' y hy => ?_⟩
  · rw [upd_ne (ne_of_none q no)]; exact I.sub _ _ q
  · have : a ≠ B.A := fun z => nx (by
      subst z
      exact I.own _ (fun _ => by rw [q]; simp) xA)
    rw [upd_ne this]; exact I.keep a o q nx
  · by_cases ha : a = B.A
    · subst ha; rw [upd_same]; simp
    · rw [upd_ne ha]; exact I.there a q
  · rw [lookup_putO] at hm
    rw [lookup_putF]
    by_cases q : m = n
    · rw [if_pos q] at hm ⊢
      cases hm
      exact ⟨v, rfl, r⟩
    · rw [if_neg q] at hm ⊢; exact F.sh m e hm
  · rw [lookup_putO] at hm
    rw [lookup_putF]
    by_cases q : m = n
    · rw [if_pos q] at hm; cases hm
    · rw [if_neg q] at hm ⊢
      obtain ⟨a, u, p1, p2, p3, p4, p5, p6⟩ := F.ow m e hm
      exact ⟨a, u, p1, p2, p3, by rw [upd_ne p3]; exact p4, p5, p6⟩
  · rw [lookup_putO] at h2 h3
    rw [lookup_putF] at h4 h5
    by_cases q : m = n
    · rw [if_pos q] at h2; cases h2
    · by_cases q' : m' = n
      · rw [if_pos q'] at h3; cases h3
      · rw [if_neg q] at h2 h4
        rw [if_neg q'] at h3 h5
        exact F.ap m m' e e' a h2 h3 h4 h5
  · obtain ⟨a, u, p1, p2, p3, p4, p5, p6⟩ := I.ow i e h
    exact ⟨a, u, p1, p2, fun x => p3 (bk x), p4, by rw [upd_ne (nX p3)]; exact p5, p6⟩
  · obtain ⟨a0, u, p1, p2, p3, p4, p5, p6⟩ := I.ow i _ h
    have e := addr_of h' p1
    subst e
    exact upd_ne (nX p3)
  · have R := (I.mx i rows a cs h h' h2').1.row (I.rowsAt h h' h2') hy
    exact ⟨upd_ne (nX R.2.1), R.1, bk⟩
/-- an attribute takes a new thing that nobody holds: while __init__ runs -/
theorem Good.putAO {H0 S0 : Hp} {g0 : G} (I0 : Good B σ H0 S0 ρ g0) {c : Nat} {fs : List (Str × FV)} (I : Good B σ H S ρ (some (.ob c fs))) (gr : Gr B H0 S0 H S) (hi : B.ini = true) {C dx l : Addr} {vs : List (Str × V)} (hc : cls c = .ref C) (h1 : H B.A = some (.ins C dx vs)) {n : Str} {b : Ob} {o : HO}
    (n1 : S l = none) (n2 : H0 l = none) (ho : H l = some o) (r : ObAt S l b o) (nm : ∀ rows, b ≠ .mat rows) :
    Good B σ (upd H B.A (.ins C dx (putF n (.ref l) vs))) S ρ (some (.ob c (putO n (.ow b) fs))) := by
  obtain ⟨hlv, _⟩ := (show DrAt B H S (some (.ob c fs)) from I.dr)
  obtain ⟨dx', vs', h1', F⟩ := I.obj hc
  rw [h1] at h1'
  cases h1'
  have xA : Exm B H S B.A := ⟨hlv, .inl rfl⟩
  have nl : ¬ Exm B H S l := fun x => I0.neX n2 (gr.own l x)
  have lA : l ≠ B.A := fun z => nl (by rw [z]; exact xA)
  have no := I.no hlv
  have hB : B.H l = none := by
    cases z : B.H l with
    | none => rfl
    | some u => exact absurd n2 (I0.there l (by rw [z]; simp))
  have bk : ∀ {a : Addr}, Exm B (upd H B.A (.ins C dx (putF n (.ref l) vs))) S a → a = l ∨ Exm B H S a := fun {a} ⟨_, x⟩ => by
    rcases x with x | ⟨x1, C', dx', ws, m, e, q⟩
    · exact .inr ⟨hlv, .inl x⟩
    · rw [upd_same] at e
      cases e
      rw [lookup_putF] at q
      by_cases e : m = n
      · rw [if_pos e] at q
        cases q
        exact .inl rfl
      · rw [if_neg e] at q
        exact .inr ⟨hlv, .inr ⟨x1, C, dx, vs, m, h1, q⟩⟩
  have nX : ∀ {a : Addr}, ¬ Exm B H S a → a ≠ B.A := fun h z => h (by rw [z]; exact xA)
  have own0 : ∀ (i : Nat) (e : Ob) (a : Addr), ρ[i]? = some (.ow e) → σ[i]? = some (some (.ref a)) → a ≠ l := fun i e a h h' z => by
    obtain ⟨a0, u, p1, _, _, _, p5, _⟩ := I0.ow i e h
    have q := addr_of h' p1
    subst q
    rw [z, n2] at p5
    cases p5
  refine ⟨⟨fun a o q => ?_, fun a o q nx => ?_, I.base, I.new, fun a q => ?_, I.no, ⟨hlv, C, dx, putF n (.ref l) vs, hc, upd_same, names_put n _ _ F.names, fun m e hm => ?_, fun m e hm => ?_, fun m m' e e' a h2 h3 h4 h5 => ?_⟩, fun a h x => ?_⟩, I.len, I.sh, I.dw, I.sw, fun i e h => ?_, I.ap, I.mxMove (Same.refl _) (fun i b h => ⟨⟨b, h⟩, rfl⟩) (fun i rows h => h) (fun i rows a h h' => ?_) fun i rows a cs _ h h' h2' y hy => ?_⟩
  · rw [upd_ne (ne_of_none q no)]; exact I.sub _ _ q
  · have : a ≠ B.A := fun z => nx (by
      subst z
      exact I.own _ (fun _ => by rw [q]; simp) xA)
    rw [upd_ne this]; exact I.keep a o q nx
  · by_cases ha : a = B.A
    · subst ha; rw [upd_same]; simp
    · rw [upd_ne ha]; exact I.there a q
  · rw [lookup_putO] at hm
    rw [lookup_putF]
    by_cases q : m = n
    · rw [if_pos q] at hm; cases hm
    · rw [if_neg q] at hm ⊢; exact F.sh m e hm
  · rw [lookup_putO] at hm
    rw [lookup_putF]
    by_cases q : m = n
    · rw [if_pos q] at hm ⊢
      cases hm
      exact ⟨l, o, rfl, n1, lA, by rw [upd_ne lA]; exact ho, r, nm⟩
    · rw [if_neg q] at hm ⊢
      obtain ⟨a, u, p1, p2, p3, p4, p5, p6⟩ := F.ow m e hm
      exact ⟨a, u, p1, p2, p3, by rw [upd_ne p3]; exact p4, p5, p6⟩
  · rw [lookup_putO] at h2 h3
    rw [lookup_putF] at h4 h5
    have was : ∀ m e, fs.lookup m = some (.ow e) → vs.lookup m = some (.ref l) → False := fun m e k1 k2 => by
      obtain ⟨a, u, p1, p2, _⟩ := F.ow m e k1
      rw [k2] at p1
      cases p1
      exact nl ⟨hlv, .inr ⟨n1, C, dx, vs, m, h1, k2⟩⟩
    by_cases q : m = n
    · by_cases q' : m' = n
      · rw [q, q']
      · rw [if_neg q'] at h3 h5
        rw [if_pos q] at h4
        cases h4
        exact (was m' e' h3 h5).elim
    · by_cases q' : m' = n
      · rw [if_neg q] at h2 h4
        rw [if_pos q'] at h5
        cases h5
        exact (was m e h2 h4).elim
      · rw [if_neg q] at h2 h4
        rw [if_neg q'] at h3 h5
        exact F.ap m m' e e' a h2 h3 h4 h5
  · rcases bk x with rfl | x
    · exact absurd hB (h hi)
    · exact I.own a h x
  · obtain ⟨a, u, p1, p2, p3, p4, p5, p6⟩ := I.ow i e h
    refine ⟨a, u, p1, p2, fun x => ?_, p4, by rw [upd_ne (nX p3)]; exact p5, p6⟩
    rcases bk x with z | x
    · exact own0 i e a h p1 z
    · exact p3 x
  · obtain ⟨a0, u, p1, p2, p3, p4, p5, p6⟩ := I.ow i _ h
    have e := addr_of h' p1
    subst e
    exact upd_ne (nX p3)
  · have R := (I.mx i rows a cs h h' h2').1.row (I.rowsAt h h' h2') hy
    refine ⟨upd_ne (nX R.2.1), R.1, fun x => ?_⟩
    rcases bk x with z | x
    · exfalso
      obtain ⟨a0, u, l1, _, l3, _, l5, _⟩ := I0.ow i _ h
      have q := addr_of h' l1
      subst q
      have l6 := gr.keep a u l5 l3
      rw [h2'] at l6
      rw [← l6] at l5
      have R0 := (I0.mx i rows a cs h h' l5).1.row (I0.rowsAt h h' l5) hy
      exact R0.2.2.2 (by rw [z]; exact n2)
    · exact x
end
end DL

set_option Elab.async false
set_option linter.all false
set_option maxRecDepth 100000
set_option maxHeartbeats 400000
/-! The data layer, part 38: methods, their calls, new objects. -/
namespace DL
open PySem PySem.Spec PyProof.Rows L2
variable {cls : Nat → Value}
section
variable {X : Cx} {cls : Nat → Value} {W : WX} {pos p : Pos} {a b e o : Expr} {es es0 : List Expr} {fa fb fe : Ex} {D : Ends} {σ : L2.St} {H : Hp} {j k : Nat} {x n : Str} {C : Addr} {c : Nat}
/-! ### self.a[k] = v -/
def keyAtS (i c : Nat) (n : Str) (fk fv : Ex) : Sm := fun ρ g => match fv (noDx ρ) none with
  | .ok d none => (match fk (noDx ρ) none with
    | .ok z none => (match ρ[i]?, g with
      | some (.dx _), some (.ob k fs) => if k = c then (match fs.lookup n, nkT z with
        | some (.ow (.nd kvs)), some kk => if kvs.length < big then .nx ρ (some (.ob k (putO n (.ow (.nd (putND kvs z d kk))) fs))) else .bad
        | _, _ => .bad) else .bad
      | _, _ => .bad)
    | _ => .bad)
  | _ => .bad
theorem psd_keyAt (i : Nat) {p1 p2 p3 : Pos} (hr : Room j X.A) (hc : ClsK X.K cls c C) (hn : NoAttr X.K C n) (hk : PE X b (tE cls W fb)) (ha : PE X a (tE cls W fa)) (hN : X.N[i]? = some x := by rfl) (hv : Vis X.env.scope x := by first | exact Or.inl rfl | exact Or.inr (Or.inl rfl) | exact Or.inr (Or.inr rfl)) (hd : (x == ("__debug__" : Str)) = false := by decide) (hcd : (x == ("__classdict__" : Str)) = false := by decide)
    (hb : attributeBase (.Name x p1) n X.env (eval (.Name x p1) X.env) = eval (.Name x p1) X.env := by rfl) (hs : swapsWith a (some (.Subscript (.Attribute (.Name x p1) n p2) b p3)) pos.line X.env = pure false := by rfl) :
    PS X (.Assign [.Subscript (.Attribute (.Name x p1) n p2) b p3] a pos) (tS cls W (keyAtS i c n fb fa)) :=
  PS_imp (ps_dputN (by have := hu64 hr; omega) (pe_fld (pe_var hN hv hd hcd) hb) hk ha hs) fun D σ H ⟨B, S, ρ, g, I, h⟩ => by
    unfold keyAtS at h
    refine ⟨bs0 B S, S, noDx ρ, none, I.pure, ?_⟩
    cases ea : fa (noDx ρ) none with
    | bad => rw [ea] at h; exact h
    | ex m g1 => rw [ea] at h; exact False.elim h
    | ok d g1 =>
      rw [ea] at h
      cases g1 with
      | some _ => exact False.elim h
      | none =>
        intro v H1 S1 I1 e1 r1
        obtain ⟨J1, gr1, k1⟩ := I.unpure I1 e1
        cases eb : fb (noDx ρ) none with
        | bad => simp only [eb] at h; exact False.elim h
        | ex m g2 => simp only [eb] at h; exact False.elim h
        | ok z g2 =>
          cases g2 with
          | some _ => simp only [eb] at h; exact False.elim h
          | none =>
            simp only [eb] at h
            split at h
            · rename_i bb kc fs hi
              by_cases hkc : kc = c
              · subst hkc
                rw [if_pos rfl] at h
                split at h
                · rename_i kvs kk hl hz
                  by_cases hbig : kvs.length < big
                  · rw [if_pos hbig] at h
                    obtain ⟨dx, vs, q1, F⟩ := J1.obj hc.at_
                    obtain ⟨l, u, q2, q3, q4, q5, q6, _⟩ := F.ow n _ hl
                    cases q6 with
                    | @nd _ xs r0 =>
                      refine ⟨_, (J1.dw i hi).1, B.A, C, dx, vs, .ref l, rfl, q1, hc.cl, hn, q2, bs0 B S1, S1, noDx ρ, none, J1.pure, ?_⟩
                      rw [eb]
                      intro y H2 S2 I2 e2 r2
                      obtain ⟨J2, gr2, k2⟩ := J1.unpure I2 e2
                      obtain ⟨hk1, hk2, hk3, ds, rfl⟩ := nkT_of hz
                      obtain ⟨c', rfl, kb⟩ := key_at (K := X.K) I2.sub r2 hz
                      have r0' : Rpn S2 xs kvs := r0.mono gr2.base
                      refine ⟨l, c', xs, kk, rfl, rfl, k2 _ _ q5, Rpn.keys J2.sub r0', kb, nkD_plain hk1, by rw [Rpn.length r0]; exact big_lt hbig, ?_⟩
                      exact h _ _ _ (J2.mutA hc.at_ (k2 _ _ q1) hl q2 (b' := .nd (putND kvs (.tuple ds) d kk)) (.nd (r0'.put hk1 hk2 hk3 r2 (r1.mono gr2.base))) fun _ z => nomatch z) (gr1.base.trans gr2.base)
                  · rw [if_neg hbig] at h; exact False.elim h
                · exact False.elim h
              · rw [if_neg hkc] at h; exact False.elim h
            · exact False.elim h
/-! ### self.a = e -/
def setAtS (i c : Nat) (n : Str) (f : Ex) : Sm := stE f fun d ρ g => match ρ[i]?, g with
  | some (.dx _), some (.ob k fs) => if k = c ∧ fs.length < 1000 then .nx ρ (some (.ob k (putO n (.sh d) fs))) else .bad
  | _, _ => .bad
theorem len_names {vs : List (Str × V)} {fs : List (Str × FV)} (h : vs.map (·.1) = fs.map (·.1)) : vs.length = fs.length := by
  have := congrArg List.length h
  rwa [List.length_map, List.length_map] at this
theorem psd_setAt (i : Nat) {p1 p2 : Pos} (hc : ClsK X.K cls c C) (hn : NoAttr X.K C n) (ha : PE X a (tE cls W fa)) (hN : X.N[i]? = some x := by rfl) (hv : Vis X.env.scope x := by first | exact Or.inl rfl | exact Or.inr (Or.inl rfl) | exact Or.inr (Or.inr rfl)) (hd : (x == ("__debug__" : Str)) = false := by decide) (hcd : (x == ("__classdict__" : Str)) = false := by decide)
    (hs : swapsWith a (some (.Attribute (.Name x p1) n p2)) pos.line X.env = pure false := by rfl) :
    PS X (.Assign [.Attribute (.Name x p1) n p2] a pos) (tS cls W (setAtS i c n fa)) :=
  PS_imp (ps_fld (pe_var hN hv hd hcd) ha hs) fun D σ H h => st_of h fun B S ρ g d v H1 I r q => by
    split at q
    · rename_i bb kc fs hi
      by_cases hk : kc = c ∧ fs.length < 1000
      · rw [if_pos hk] at q
        obtain ⟨rfl, hl⟩ := hk
        obtain ⟨dx, vs, q1, F⟩ := I.obj hc.at_
        exact ⟨_, (I.dw i hi).1, B.A, C, dx, vs, rfl, q1, hc.cl, hn, by rw [len_names F.names]; exact hl, q _ _ _ (I.putA hc.at_ q1 r) (Same.refl _)⟩
      · rw [if_neg hk] at q; exact False.elim q
    · exact False.elim q
/-- a new thing of its own, while __init__ runs -/
def isMat : Ob → Bool
  | .mat _ => true
  | _ => false
def putNew (i c : Nat) (n : Str) (b : Ob) : Sm := fun ρ g1 => match ρ[i]?, g1 with
  | some (.dx true), some (.ob k fs) => if k = c ∧ fs.length < 1000 ∧ isMat b = false then .nx ρ (some (.ob k (putO n (.ow b) fs))) else .bad
  | _, _ => .bad
def setAtOS (i c : Nat) (n : Str) (f : Ow) : Sm := fun ρ g => match f ρ g with
  | .ok b g1 => putNew i c n b ρ g1
  | .ex n g1 => .ex n ρ g1
  | .bad => .bad
theorem putNew_of {i c : Nat} {n : Str} {ρ : Nv} {g1 : G} {b : Ob} {B : Bs cls} {S : Hp} {D : Ends} (h : SO cls W B S D (putNew i c n b ρ g1)) : (∀ rows, b ≠ .mat rows) ∧ ∃ fs, ρ[i]? = some (.dx true) ∧ g1 = some (.ob c fs) ∧ fs.length < 1000 ∧ SO cls W B S D (.nx ρ (some (.ob c (putO n (.ow b) fs)))) := by
  unfold putNew at h
  split at h
  · rename_i kc fs hi
    by_cases hk : kc = c ∧ fs.length < 1000 ∧ isMat b = false
    · rw [if_pos hk] at h
      obtain ⟨rfl, hl, hm⟩ := hk
      exact ⟨(fun rows z => by rw [z] at hm; cases hm), fs, hi, rfl, hl, h⟩
    · rw [if_neg hk] at h; exact False.elim h
  · exact False.elim h
theorem psd_setAtO (i : Nat) {p1 p2 : Pos} {f : Ow} (hc : ClsK X.K cls c C) (hn : NoAttr X.K C n) (ha : PE X a (tO cls W f)) (hN : X.N[i]? = some x := by rfl) (hv : Vis X.env.scope x := by first | exact Or.inl rfl | exact Or.inr (Or.inl rfl) | exact Or.inr (Or.inr rfl)) (hd : (x == ("__debug__" : Str)) = false := by decide) (hcd : (x == ("__classdict__" : Str)) = false := by decide)
    (hs : swapsWith a (some (.Attribute (.Name x p1) n p2)) pos.line X.env = pure false := by rfl) :
    PS X (.Assign [.Attribute (.Name x p1) n p2] a pos) (tS cls W (setAtOS i c n f)) :=
  PS_imp (ps_fld (pe_var hN hv hd hcd) ha hs) fun D σ H ⟨B, S, ρ, g, I, h⟩ => by
    refine ⟨B, S, ρ, g, I, ?_⟩
    cases ef : f ρ g with
    | bad => unfold setAtOS at h; rw [ef] at h; exact h
    | ex m g1 => unfold setAtOS at h; rw [ef] at h; exact fun H' S' I' e' => h σ H' S' I' e'.base
    | ok b g1 =>
      unfold setAtOS at h
      rw [ef] at h
      obtain ⟨nm, fs, hi, rfl, hl, q⟩ := putNew_of h
      intro l u H1 S1 I1 e1 n1 n2 ho r
      obtain ⟨dx, vs, q1, F⟩ := I1.obj hc.at_
      have hd := I1.dw i hi
      exact ⟨_, hd.1, B.A, C, dx, vs, rfl, q1, hc.cl, hn, by rw [len_names F.names]; exact hl, q _ _ _ (I.putAO I1 e1 (hd.2.2 rfl) hc.at_ q1 n1 n2 ho r nm) e1.base⟩
end
/-! ### methods -/
structure KeptM (P : Program) (w : World) (K : PySem.W.Frag) (mg : Str → Option Value) (base : Heap) (cls : Nat → Value) (C : Addr) (n : Str) (ps : List Str) (m : Fn) (k : Nat) : Prop where
  ex : ∃ (f : Addr) (fd : FuncData), Meth K C n f ∧ L2.Binds K fd ps [] ∧ FnOk P w K mg base (L2.CX P w) k f fd ps (spF cls ps.length true m)
/-- __init__'s promise -/
def spI (cls : Nat → Value) (ar : Nat) (m : Fn) : Sp := fun vs H Q E => vs.length = ar ∧ ∃ (A : Addr) (nv : V) (S : Hp) (us : List V) (ds : List PyData) (g : G), vs = .ref A :: us ∧ Fin (cls := cls) ⟨A, true, S, H, 0, nv, true⟩ H S g ∧ Rps S us ds ∧ FO cls ⟨A, true, S, H, 0, nv, true⟩ Q E (m ds g)
@[simp] def fnI (n : Nat) (body : Sm) : Fn := fun ds g => match body (.di :: ds.map .sh ++ List.replicate n .no) g with
  | .nx _ g1 => .ok .none g1
  | .rt d g1 => .ok d g1
  | .ex k _ g1 => .ex k g1
  | _ => .bad
structure KeptI (P : Program) (w : World) (K : PySem.W.Frag) (mg : Str → Option Value) (base : Heap) (cls : Nat → Value) (C : Addr) (ps : List Str) (m : Fn) (k : Nat) : Prop where
  ex : ∃ (f : Addr) (fd : FuncData), Mk K C f ∧ L2.Binds K fd ps [] ∧ FnOk P w K mg base (L2.CX P w) k f fd ps (spI cls ps.length m)
section
variable {P : Program} {w : World} {K : PySem.W.Frag} {mg : Str → Option Value} {base : Heap} {cls : Nat → Value}
theorem start_goodI {A : Addr} {nv : V} {S H : Hp} {us vs : List V} {ds : List PyData} {g : G} {N : List Str} {n : Nat} (F : Fin (cls := cls) ⟨A, true, S, H, 0, nv, true⟩ H S g) (hv : vs = .ref A :: us) (r : Rps S us ds) (hn : N.length - vs.length = n) :
    Good (cls := cls) ⟨A, true, S, H, 0, nv, true⟩ (L2.start N vs) H S (.di :: ds.map .sh ++ List.replicate n .no) g := by
  have F0 : Fin (cls := cls) ⟨A, true, S, H, 0, nv, false⟩ H S g := ⟨F.sub, fun _ _ h _ => h, Same.refl _, fun _ h => .inl h, fun _ h => h, F.no, (by
    have d := F.dr
    match g, d with
    | none, d => exact d
    | some (.dr _ _), d => exact d
    | some (.ob _ _), d => exact d), fun _ _ x => x⟩
  have G0 := start_good (dr := true) F0 (fun _ => rfl) (vs := vs) (us := us) (by rw [if_pos rfl]; exact hv) r hn
  rw [if_pos rfl] at G0
  have at_ : ∀ (i : Nat) (z : Sl), z ≠ .dx true → z ≠ .no → (Sl.di :: ds.map .sh ++ List.replicate n .no)[i]? = some z → (Sl.dr :: ds.map .sh ++ List.replicate n .no)[i]? = some z := fun i z hz _ h => by
    cases i with
    | zero => exact absurd (Option.some.inj h).symm hz
    | succ i => exact h
  have only : ∀ (i : Nat) (b : Bool), (Sl.di :: ds.map .sh ++ List.replicate n .no)[i]? = some (.dx b) → i = 0 ∧ b = true := fun i b h => by
    cases i with
    | zero => cases h; exact ⟨rfl, rfl⟩
    | succ i =>
      exfalso
      have h : (ds.map Sl.sh ++ List.replicate n .no)[i]? = some (.dx b) := h
      by_cases hi : i < (ds.map Sl.sh).length
      · rw [List.getElem?_append_left hi, List.getElem?_map] at h
        cases e : ds[i]? with
        | none => rw [e] at h; cases h
        | some d => rw [e] at h; cases h
      · rw [List.getElem?_append_right (Nat.le_of_not_lt hi), List.getElem?_replicate] at h
        split at h
        · cases h
        · cases h
  refine ⟨F, ?_, fun i d h => G0.sh i d (at_ i _ (fun z => nomatch z) (fun z => nomatch z) h), fun i {b} h => ?_, fun i m h => ?_, fun i b h => ?_, fun i j b c a h1 h2 => G0.ap i j b c a (at_ i _ (fun z => nomatch z) (fun z => nomatch z) h1) (at_ j _ (fun z => nomatch z) (fun z => nomatch z) h2), fun i rows a cs h1 h2 h3 => ?_⟩
  · have := G0.len
    rw [this]
    simp
  · obtain ⟨rfl, rfl⟩ := only i b h
    have q := G0.dw 0 (b := false) rfl
    exact ⟨q.1, rfl, fun _ => rfl⟩
  · have q := G0.sw i m (at_ i _ (fun z => nomatch z) (fun z => nomatch z) h)
    cases m with
    | zero => exact q
    | succ m => exact q
  · obtain ⟨a, o, q1, q2, q3, q4, q5, q6⟩ := G0.ow i b (at_ i _ (fun z => nomatch z) (fun z => nomatch z) h)
    exact ⟨a, o, q1, q2, q3, q4, q5, q6⟩
  · obtain ⟨R, A1, A2⟩ := G0.mx i rows a cs (at_ i _ (fun z => nomatch z) (fun z => nomatch z) h1) h2 h3
    exact ⟨⟨R.nd, R.at_⟩, fun j b a' k1 => A1 j b a' (at_ j _ (fun z => nomatch z) (fun z => nomatch z) k1), fun j rows' a' cs' hj k1 => A2 j rows' a' cs' hj (at_ j _ (fun z => nomatch z) (fun z => nomatch z) k1)⟩
/-- THE RULE for a method -/
theorem fn_okM {C : Addr} {x q : Str} {st : Stmt} {N ps : List Str} {k : Nat} {body : Sm} (Fx : ∃ (f : Addr) (fd : FuncData), Fun K x q st f fd ∧ Meth K C x f ∧ L2.Binds K fd ps []) (S : FnScope N ps (defScope st))
    (hd : ∀ (f : Addr) (cdv : Value) (A : Around) (outer : List PySem.Env) (s : Shared) (H : Hp) (E : XK), Room k (A.deeper (envOfC q (defScope st) s.heap.objs.size f cdv)) →
      PSs (cxOf (L2.CX P w) P w K mg base N q (defScope st) f cdv A outer s H E) (defBody st) (tS cls (fun c d _ H => E c d H) body)) {n : Nat} (hn : N.length - ps.length = n := by rfl) :
    KeptM P w K mg base cls C x ps (fnD n true body) (k + 1) := by
  obtain ⟨f, fd, F, hm, hb⟩ := Fx
  refine ⟨f, fd, hm, hb, F.okX S (fun vs H Q E h => h.1) fun cdv A outer s H vs Q E hr h => ?_⟩
  obtain ⟨hl, A1, live, nv, S1, us, ds, g, hv, hlive, Fi, r, h⟩ := h
  refine ⟨_, hd f cdv A outer s H E hr, ⟨A1, live, S1, H, 0, nv, false⟩, S1, (if true = true then .dr :: ds.map .sh else ds.map .sh) ++ List.replicate n .no, g, start_good Fi hlive hv r (by rw [hl]; exact hn), ?_⟩
  unfold fnD at h
  cases eb : body ((if true = true then .dr :: ds.map .sh else ds.map .sh) ++ List.replicate n .no) g with
  | nx ρ1 g1 => rw [eb] at h; exact fun σ' H' S' I' _ => h .non H' S' I'.toFin .non
  | rt d g1 => rw [eb] at h; exact fun v H' S' F' r' => h v H' S' F' r'
  | ex n ρ1 g1 => rw [eb] at h; exact fun σ' H' S' I' _ => h H' S' I'.toFin
  | bk ρ1 g1 => rw [eb] at h; exact False.elim h
  | ct ρ1 g1 => rw [eb] at h; exact False.elim h
  | bad => rw [eb] at h; exact h
/-- THE RULE for __init__ -/
theorem fn_okI {C : Addr} {x q : Str} {st : Stmt} {N ps : List Str} {k : Nat} {body : Sm} (Fx : ∃ (f : Addr) (fd : FuncData), Fun K x q st f fd ∧ Mk K C f ∧ L2.Binds K fd ps []) (S : FnScope N ps (defScope st))
    (hd : ∀ (f : Addr) (cdv : Value) (A : Around) (outer : List PySem.Env) (s : Shared) (H : Hp) (E : XK), Room k (A.deeper (envOfC q (defScope st) s.heap.objs.size f cdv)) →
      PSs (cxOf (L2.CX P w) P w K mg base N q (defScope st) f cdv A outer s H E) (defBody st) (tS cls (fun c d _ H => E c d H) body)) {n : Nat} (hn : N.length - ps.length = n := by rfl) :
    KeptI P w K mg base cls C ps (fnI n body) (k + 1) := by
  obtain ⟨f, fd, F, hm, hb⟩ := Fx
  refine ⟨f, fd, hm, hb, F.okX S (fun vs H Q E h => h.1) fun cdv A outer s H vs Q E hr h => ?_⟩
  obtain ⟨hl, A1, nv, S1, us, ds, g, hv, Fi, r, h⟩ := h
  refine ⟨_, hd f cdv A outer s H E hr, ⟨A1, true, S1, H, 0, nv, true⟩, S1, .di :: ds.map .sh ++ List.replicate n .no, g, start_goodI Fi hv r (by rw [hl]; exact hn), ?_⟩
  unfold fnI at h
  cases eb : body (.di :: ds.map .sh ++ List.replicate n .no) g with
  | nx ρ1 g1 => rw [eb] at h; exact fun σ' H' S' I' _ => h .non H' S' I'.toFin .non
  | rt d g1 => rw [eb] at h; exact fun v H' S' F' r' => h v H' S' F' r'
  | ex n ρ1 g1 => rw [eb] at h; exact fun σ' H' S' I' _ => h H' S' I'.toFin
  | bk ρ1 g1 => rw [eb] at h; exact False.elim h
  | ct ρ1 g1 => rw [eb] at h; exact False.elim h
  | bad => rw [eb] at h; exact h
end
section
variable {X : Cx} {cls : Nat → Value} {W : WX} {pos p : Pos} {a b e e0 o : Expr} {es es0 : List Expr} {fa fa0 : Ar} {D : Ends} {σ : L2.St} {H : Hp} {j k : Nat} {x n : Str} {ps ps0 : List Str} {C : Addr} {c : Nat} {m mi : Fn}
/-- self.m(..), self in slot i, of the class c -/
def callM (ar i c : Nat) (n : Str) (m : Fn) (fa : Ar) : Ex := fun ρ g => match ρ[i]?, g with
  | some (.dx _), some (.ob k fs) => if k = c ∧ (fs.lookup n).isNone = true then (fa ρ (some (.ob k fs))).bind fun ds g1 => if ds.length + 1 = ar then (match m ds g1 with
    | .ok d g2 => .ok d g2
    | _ => .bad) else .bad else .bad
  | _, _ => .bad
theorem pd_callM (i : Nat) {p1 apos : Pos} {pl : Sem Bool} (F : KeptM X.prog X.w X.K X.mg X.base cls C n ps m j) (hc : ClsK X.K cls c C) (hr : Room k X.A) (hjk : j ≤ k) (ha : PA X (e :: es) (tA cls W fa)) (hN : X.N[i]? = some x := by rfl) (hv : Vis X.env.scope x := by first | exact Or.inl rfl | exact Or.inr (Or.inl rfl) | exact Or.inr (Or.inr rfl)) (hd : (x == ("__debug__" : Str)) = false := by decide) (hcd : (x == ("__classdict__" : Str)) = false := by decide)
    (hst : starEach (e :: es) X.env = (false, eval e X.env) :: starEach es X.env := by rfl) (hpl : (backTo pos (starEach es X.env)).any (·.1) = false := by rfl)
    (ht : eval (.Call (.Attribute (.Name x p1) n apos) (e :: es) [] pos) X.env = (do
      let ov ← eval (.Name x p1) X.env
      standAt apos.atName
      let (f, first) ← holding [ov] (getMethod ov n pl)
      callWith pos f first (backTo pos (starEach (e :: es) X.env)) (backToKw pos (keywordEach [] X.env))) := by rfl) {ar : Nat} (har : ps.length = ar := by rfl) :
    PE X (.Call (.Attribute (.Name x p1) n apos) (e :: es) [] pos) (tE cls W (callM ar i c n m fa)) := by
  subst har
  obtain ⟨f, fd, hm, hb, F⟩ := F.ex
  exact PE_imp (pe_meth (CX := L2.CX X.prog X.w) (dvs := []) (E := fun _ _ _ => False) (pe_var hN hv hd hcd) hc.cl hm F (hr.mono hjk) hb .nil (fun _ _ _ _ _ _ _ z => by
    obtain ⟨_, _, _, _, _, _, _, _, _, _, _, _, z⟩ := z
    exact z.elim) ha hst hpl ht) fun σ H Q ⟨B, S, ρ, g, I, h⟩ => by
    unfold callM at h
    split at h
    · rename_i bb kc fs hi
      by_cases hk : kc = c ∧ (fs.lookup n).isNone = true
      · rw [if_pos hk] at h
        obtain ⟨rfl, hln⟩ := hk
        obtain ⟨dx, vs, q1, Fa⟩ := I.obj hc.at_
        have hvn : vs.lookup n = none := lookup_none_iff Fa.names n (by
          cases q : fs.lookup n with
          | none => rfl
          | some z => rw [q] at hln; cases hln)
        have hlive : B.live = true := (I.dw i hi).2.1
        refine ⟨_, (I.dw i hi).1, B.A, dx, vs, rfl, q1, hvn, B, S, ρ, _, I, ?_⟩
        cases ea : fa ρ (some (.ob kc fs)) with
        | bad => rw [ea] at h; exact h
        | ex m g1 => rw [ea] at h; exact h
        | ok ds g1 =>
          rw [ea] at h
          intro us H1 S1 I1 e1 r1
          have h' := EO_gr e1 h
          simp only [R.bind_ok] at h'
          by_cases hl : ds.length + 1 = ps.length
          · rw [if_pos hl] at h'
            refine ⟨by rw [List.append_nil, List.length_cons, r1.length]; exact hl, B.A, B.live, B.N, S1, us, ds, g1, by rw [List.append_nil]; rfl, fun _ => hlive, I1.fin0, r1, ?_⟩
            cases em : m ds g1 with
            | ok d g2 =>
              rw [em] at h'
              intro v H2 S2 F2 r2
              obtain ⟨I2, e2⟩ := I1.after F2
              exact h' v H2 S2 I2 e2 r2
            | ex n g2 => rw [em] at h'; exact False.elim h'
            | bad => rw [em] at h'; exact False.elim h'
          · rw [if_neg hl] at h'
            exact False.elim h'
      · rw [if_neg hk] at h; exact False.elim h
    · exact False.elim h
/-- C(..).m(..): a new object, one method of it, and the object is forgotten -/
def newM (ar0 ar c : Nat) (n : Str) (mi m : Fn) (fa0 fa : Ar) : Ex := fun ρ g => (fa0 ρ g).bind fun ds0 g1 => if ds0.length + 1 = ar0 then (match mi ds0 (some (.ob c [])) with
  | .ok .none (some (.ob k fs)) => if k = c ∧ (fs.lookup n).isNone = true then (fa ρ g1).bind fun ds g2 => if ds.length + 1 = ar then (match m ds (some (.ob c fs)) with
      | .ok d (some (.ob _ _)) => .ok d g2
      | _ => .bad) else .bad else .bad
  | _ => .bad) else .bad
end
end DL

set_option Elab.async false
set_option linter.all false
set_option maxRecDepth 100000
set_option maxHeartbeats 400000
/-! The data layer, part 39: a new object, one method of it. -/
namespace DL
open PySem PySem.Spec PyProof.Rows L2
variable {cls : Nat → Value}
section
variable {B : Bs cls} {σ : L2.St} {ρ : Nv} {g : G}
/-- a new object made by its __init__: what holds of it, and of the rest -/
structure Made (B : Bs cls) (x : Addr) (c : Nat) (fs : List (Str × FV)) (H0 H S : Hp) : Prop where
  dr : DrAt (cls := cls) ⟨x, true, S, H, 0, .non, false⟩ H S (some (.ob c fs))
  no : S x = none
  new : ∀ a, Exm (cls := cls) ⟨x, true, S, H, 0, .non, false⟩ H S a → H0 a = none
abbrev bsX (cls : Nat → Value) (x : Addr) (S H : Hp) (i : Bool) : Bs cls := ⟨x, true, S, H, 0, .non, i⟩
theorem exm_x {x a : Addr} {S S' H H' Hh Ss : Hp} {i i' : Bool} (h : Exm (bsX cls x S H i) Hh Ss a) : Exm (bsX cls x S' H' i') Hh Ss a := h
theorem dr_x {x : Addr} {S S' H H' Hh Ss : Hp} {i i' : Bool} {g : G} (h : DrAt (bsX cls x S H i) Hh Ss g) (hg : nob g = false) : DrAt (bsX cls x S' H' i') Hh Ss g := by
  match g, h, hg with
  | some (.ob c fs), h, _ => exact h
  | none, _, hg => cases hg
  | some (.dr _ _), _, hg => cases hg
/-- the object's heap at its birth -/
abbrev birth (H : Hp) (x dx C : Addr) : Hp := upd (upd H dx (.own x)) x (.ins C dx [])
theorem birth_at {H : Hp} {x dx C : Addr} {a : Addr} {o : HO} (hx : H x = none) (hd : H dx = none) (h : H a = some o) : birth H x dx C a = some o := by
  unfold birth
  rw [upd_ne (ne_of_none h hx), upd_ne (ne_of_none h hd)]
  exact h
theorem birth_none {H : Hp} {x dx C : Addr} {a : Addr} (h : birth H x dx C a = none) : H a = none := by
  unfold birth at h
  by_cases h1 : a = x
  · rw [h1, upd_same] at h; cases h
  · rw [upd_ne h1] at h
    by_cases h2 : a = dx
    · rw [h2, upd_same] at h; cases h
    · rw [upd_ne h2] at h; exact h
theorem birth_exm {H S S' Hh : Hp} {x dx C a : Addr} {i : Bool} (h : Exm (bsX cls x S' Hh i) (birth H x dx C) S a) : a = x := by
  obtain ⟨_, h⟩ := h
  rcases h with h | ⟨_, C', dx', vs, n, e, l⟩
  · exact h
  · unfold birth at e
    rw [upd_same] at e
    cases e
    cases l
theorem birth_fin {H S : Hp} {x dx C : Addr} {c : Nat} (I : Good B σ H S ρ g) (hx : H x = none) (hd : H dx = none) (hne : dx ≠ x) (hc : cls c = .ref C) : Fin (bsX cls x S (birth H x dx C) true) (birth H x dx C) S (some (.ob c [])) :=
  ⟨fun a o h => birth_at hx hd (I.sub _ _ h), fun _ _ h _ => h, Same.refl _, fun _ h => .inl h, fun _ h => h, fun _ => I.stay hx,
    ⟨rfl, C, dx, [], hc, by unfold birth; rw [upd_same], rfl, (fun n d h => nomatch h), (fun n b h => nomatch h), (fun n m b c' a h => nomatch h)⟩, fun _ _ x => x⟩
/-- behind __init__ -/
theorem made_of {H S H2 S2 : Hp} {x dx C : Addr} {c : Nat} {fs : List (Str × FV)} (I : Good B σ H S ρ g) (hx : H x = none) (hd : H dx = none) (F : Fin (bsX cls x S (birth H x dx C) true) H2 S2 (some (.ob c fs))) :
    Good B σ H2 S2 ρ g ∧ Gr B H S H2 S2 ∧ Made B x c fs H H2 S2 := by
  have k : ∀ a o, H a = some o → H2 a = some o := fun a o h => F.keep a o (birth_at hx hd h) fun q => by
    rw [birth_exm q, hx] at h
    cases h
  have kA : B.live = true → H2 B.A = H B.A := fun hl => by
    cases q : H B.A with
    | none => exact absurd q (I.dr.live hl)
    | some o => exact k _ _ q
  have hnew : ∀ a, S2 a ≠ none → S a ≠ none ∨ H a = none := fun a h => (F.new a h).imp id birth_none
  have hth : ∀ a, H a ≠ none → H2 a ≠ none := fun a h => by
    cases q : H a with
    | none => exact absurd q h
    | some o => rw [k _ _ q]; simp
  have gr : Gr B H S H2 S2 := ⟨fun a o h _ => k a o h, F.base, hnew, hth, fun a q => q.back F.base kA⟩
  refine ⟨I.grow gr F.sub (I.dr.mono F.base (fun a q => ?_) fun a q z => ?_), gr, dr_x F.dr rfl, F.no rfl, fun a q => ?_⟩
  · cases e : H a with
    | none => exact absurd e (I.dr.exm q)
    | some o => exact k _ _ e
  · cases e : S2 a with
    | none => rfl
    | some o =>
      rcases hnew a (by rw [e]; simp) with w | w
      · exact absurd z w
      · exact absurd w (I.dr.exm q)
  · by_cases e : birth H x dx C a = none
    · exact birth_none e
    · rw [birth_exm (F.own a (fun _ => e) q)]
      exact hx
/-- the object stays while other things are evaluated -/
theorem Made.grow {H0 S0 H S H' S' : Hp} {g' : G} {x : Addr} {c : Nat} {fs : List (Str × FV)} (M : Made B x c fs H0 H S) (I0 : Good B σ H0 S0 ρ g) (gr0 : Gr B H0 S0 H S) (I' : Good B σ H' S' ρ g') (e : Gr B H S H' S') : Made B x c fs H0 H' S' ∧ H' x = H x := by
  have nX : ∀ a, Exm (bsX cls x S H false) H S a → ¬ Exm B H S a := fun a q z => I0.dr.exm (gr0.own a z) (M.new a q)
  have kp : ∀ a, Exm (bsX cls x S H false) H S a → H' a = H a := fun a q => by
    cases z : H a with
    | none => exact absurd z (M.dr.exm q)
    | some o => exact e.keep a o z (nX a q)
  have nS : ∀ a, Exm (bsX cls x S H false) H S a → S a = none → S' a = none := fun a q z => by
    cases w : S' a with
    | none => rfl
    | some o =>
      rcases e.new a (by rw [w]; simp) with y | y
      · exact absurd z y
      · exact absurd y (M.dr.exm q)
  have hx := kp x ⟨rfl, .inl rfl⟩
  refine ⟨⟨dr_x (M.dr.mono e.base kp nS) rfl, nS x ⟨rfl, .inl rfl⟩ M.no, fun a q => M.new a (Exm.back (B := bsX cls x S H false) e.base (fun _ => hx) q)⟩, hx⟩
/-- behind a method of it: the object is forgotten -/
theorem made_end {H0 S0 H S H' S' : Hp} {g g' g2 : G} {x : Addr} {c : Nat} {fs : List (Str × FV)} (I0 : Good B σ H0 S0 ρ g) (M : Made B x c fs H0 H S) (I : Good B σ H S ρ g') (gr : Gr B H0 S0 H S) (F : Fin (bsX cls x S H false) H' S' g2) :
    Good B σ H' S' ρ g' ∧ Gr B H0 S0 H' S' := by
  have k : ∀ a o, H0 a ≠ none → H a = some o → H' a = some o := fun a o h0 h => F.keep a o h fun q => h0 (M.new a q)
  have hth : ∀ a, H0 a ≠ none → H a ≠ none := gr.there
  have kA : B.live = true → H' B.A = H B.A := fun hl => by
    have h0 : H0 B.A ≠ none := I0.dr.live hl
    cases q : H B.A with
    | none => exact absurd q (hth _ h0)
    | some o => exact k _ _ h0 q
  have bk : ∀ a, Exm B H' S' a → Exm B H0 S0 a := fun a q => gr.own a (q.back F.base kA)
  have g2' : Gr B H0 S0 H' S' := ⟨fun a o h n => k a o (by rw [h]; simp) (gr.keep a o h n), gr.base.trans F.base, fun a h => by
    rcases F.new a h with z | z
    · exact gr.new a z
    · refine .inr ?_
      cases q : H0 a with
      | none => rfl
      | some o => exact absurd z (hth a (by rw [q]; simp)), fun a h => F.there a (hth a h), bk⟩
  refine ⟨I0.grow g2' F.sub (I.dr.mono F.base (fun a q => ?_) fun a q z => ?_), g2'⟩
  · have h0 : H0 a ≠ none := I0.dr.exm (gr.own a q)
    cases e : H a with
    | none => exact absurd e (I.dr.exm q)
    | some o => exact k _ _ h0 e
  · cases w : S' a with
    | none => rfl
    | some o =>
      rcases F.new a (by rw [w]; simp) with y | y
      · exact absurd z y
      · exact absurd y (I.dr.exm q)
end
section
variable {X : Cx} {cls : Nat → Value} {W : WX} {pos p pos0 : Pos} {e e0 : Expr} {es es0 : List Expr} {fa fa0 : Ar} {D : Ends} {σ : L2.St} {H : Hp} {j j0 k : Nat} {x n : Str} {ps ps0 : List Str} {C : Addr} {c : Nat} {m mi : Fn}
theorem noExc {X : Cx} : Passes (L2.CX X.prog X.w) X (fun _ _ _ => False) := fun _ _ _ _ _ _ _ z => by
  obtain ⟨_, _, _, _, _, _, _, _, _, _, _, _, z⟩ := z
  exact z.elim
theorem pd_newM {apos : Pos} {pl : Sem Bool} (F0 : KeptI X.prog X.w X.K X.mg X.base cls C ps0 mi j0) (F : KeptM X.prog X.w X.K X.mg X.base cls C n ps m j) (hc : ClsK X.K cls c C) (hm : X.mg x = some (.ref C)) (hr : Room k X.A) (hj0 : j0 + 1 ≤ k) (hjk : j ≤ k) (ha0 : PA X (e0 :: es0) (tA cls W fa0)) (ha : PA X (e :: es) (tA cls W fa)) (hg : Gl X x := by rfl) (hdb : (x == ("__debug__" : Str)) = false := by decide)
    (hst0 : starEach (e0 :: es0) X.env = (false, eval e0 X.env) :: starEach es0 X.env := by rfl) (hpl0 : (backTo pos0 (starEach es0 X.env)).any (·.1) = false := by rfl) (hst : starEach (e :: es) X.env = (false, eval e X.env) :: starEach es X.env := by rfl) (hpl : (backTo pos (starEach es X.env)).any (·.1) = false := by rfl)
    (ht : eval (.Call (.Attribute (.Call (.Name x p) (e0 :: es0) [] pos0) n apos) (e :: es) [] pos) X.env = (do
      let ov ← eval (.Call (.Name x p) (e0 :: es0) [] pos0) X.env
      standAt apos.atName
      let (f, first) ← holding [ov] (getMethod ov n pl)
      callWith pos f first (backTo pos (starEach (e :: es) X.env)) (backToKw pos (keywordEach [] X.env))) := by rfl) {ar0 ar : Nat} (har0 : ps0.length = ar0 := by rfl) (har : ps.length = ar := by rfl) :
    PE X (.Call (.Attribute (.Call (.Name x p) (e0 :: es0) [] pos0) n apos) (e :: es) [] pos) (tE cls W (newM ar0 ar c n mi m fa0 fa)) := by
  subst har har0
  obtain ⟨f0, fd0, hm0, hb0, F0⟩ := F0.ex
  obtain ⟨f, fd, hmm, hb, F⟩ := F.ex
  exact PE_imp (pe_meth (CX := L2.CX X.prog X.w) (dvs := []) (E := fun _ _ _ => False) (pe_make (CX := L2.CX X.prog X.w) (dvs := []) (E := fun _ _ _ => False) (k := j0) hm0 F0 (hr.mono hj0) hg hm hb0 .nil noExc ha0 hdb hst0 hpl0) hc.cl hmm F (hr.mono hjk) hb .nil noExc ha hst hpl ht) fun σ H Q ⟨B, S, ρ, g, I, h⟩ => by
    unfold newM at h
    refine ⟨B, S, ρ, g, I, ?_⟩
    cases ea : fa0 ρ g with
    | bad => rw [ea] at h; exact h
    | ex n g1 => rw [ea] at h; exact h
    | ok ds0 g1 =>
      rw [ea] at h
      intro vs0 H1 S1 I1 e1 r0 y dx hy hdx hne
      replace h := EO_gr e1 h
      simp only [R.bind_ok] at h
      by_cases hl0 : ds0.length + 1 = ps0.length
      · rw [if_pos hl0] at h
        refine ⟨by rw [List.append_nil, List.length_cons, r0.length]; exact hl0, y, .non, S1, vs0, ds0, some (.ob c []), by rw [List.append_nil], birth_fin I1 hy hdx hne hc.at_, r0, ?_⟩
        cases ei : mi ds0 (some (.ob c [])) with
        | bad => rw [ei] at h; exact h
        | ex n g2 => rw [ei] at h; exact False.elim h
        | ok d0 g2 =>
          rw [ei] at h
          intro v2 H2 S2 F2 r2
          simp only at h
          split at h
          · rename_i kc fs e2
            cases e2
            by_cases hk : kc = c ∧ (fs.lookup n).isNone = true
            · rw [if_pos hk] at h
              obtain ⟨rfl, hln⟩ := hk
              cases r2
              obtain ⟨I2, gr2, M⟩ := made_of I1 hy hdx F2
              obtain ⟨_, C', dx', vs', hC', q1, Fa⟩ := (show DrAt (bsX cls y S2 H2 false) H2 S2 (some (.ob kc fs)) from M.dr)
              rw [hc.at_] at hC'
              cases hC'
              have hvn : vs'.lookup n = none := lookup_none_iff Fa.names n (by
                cases q : fs.lookup n with
                | none => rfl
                | some z => rw [q] at hln; cases hln)
              refine ⟨rfl, y, dx', vs', rfl, q1, hvn, B, S2, ρ, g1, I2, ?_⟩
              cases eb : fa ρ g1 with
              | bad => rw [eb] at h; exact h
              | ex n g3 => rw [eb] at h; exact fun H' S' I' e' => h H' S' I' (gr2.trans e')
              | ok ds g3 =>
                rw [eb] at h
                intro us H3 S3 I3 e3 r3
                simp only [R.bind_ok] at h
                by_cases hl : ds.length + 1 = ps.length
                · rw [if_pos hl] at h
                  obtain ⟨M3, _⟩ := M.grow I1 gr2 I3 e3
                  refine ⟨by rw [List.append_nil, List.length_cons, r3.length]; exact hl, y, true, .non, S3, us, ds, some (.ob kc fs), by rw [List.append_nil]; rfl, fun _ => rfl, ⟨I3.sub, fun _ _ h _ => h, Same.refl _, fun _ h => .inl h, fun _ h => h, fun _ => M3.no, M3.dr, fun _ _ x => x⟩, r3, ?_⟩
                  cases em : m ds (some (.ob kc fs)) with
                  | bad => rw [em] at h; exact h
                  | ex n g4 => rw [em] at h; exact False.elim h
                  | ok d g4 =>
                    rw [em] at h
                    intro v H4 S4 F4 r4
                    split at h
                    · rename_i e4
                      cases e4
                      obtain ⟨I4, gr4⟩ := made_end I1 M3 I3 (gr2.trans e3) F4
                      exact h v H4 S4 I4 gr4 r4
                    · exact False.elim h
                · rw [if_neg hl] at h
                  exact False.elim h
            · rw [if_neg hk] at h; exact False.elim h
          · exact False.elim h
      · rw [if_neg hl0] at h
        exact False.elim h
end
end DL

set_option Elab.async false
set_option linter.all false
set_option maxRecDepth 100000
set_option maxHeartbeats 400000
/-! The data layer, part 40: a class of the table by its place; methods that call themselves. -/
namespace DL
open PySem PySem.Spec PyProof.Rows L2
def adr : Value → Addr
  | .ref a => a
  | _ => 0
section
variable {P : Program} {w : World} {K : PySem.W.Frag} {mg : Str → Option Value} {base : Heap} {cls : Nat → Value}
theorem keptM_bad {C : Addr} {x q : Str} {st : Stmt} {ps : List Str} {k : Nat} (Fx : ∃ (f : Addr) (fd : FuncData), Fun K x q st f fd ∧ Meth K C x f ∧ L2.Binds K fd ps []) : KeptM P w K mg base cls C x ps (fun _ _ => .bad) k := by
  obtain ⟨f, fd, F, hm, hb⟩ := Fx
  refine ⟨f, fd, hm, hb, ⟨fun vs H Q E h => h.1, fun A outer s H args us vs Q E hr he hb hv hs => ?_⟩⟩
  obtain ⟨_, _, _, _, _, _, _, _, _, _, _, _, h⟩ := hs
  exact False.elim h
end
set_option maxHeartbeats 4000000
theorem tuple_mul0 (l : Addr) (items : Array Value) (n : Nat) (dd : Option Addr) (sl : Array (Option Value)) (u : Tok) (c1 : items.isEmpty = false) :
    Meets (Builtin.«tuple.__mul__» ⟨[.ref l, .int 0 u], []⟩) (fun _ R s => s.heap.get? l = some { cls := .type "tuple", dict := dd, data := .seq items n, slots := sl } ∧
      R (.ok (.ret (Value.ref s.heap.objs.size))) { s with heap := s.heap.push { cls := Value.type "tuple", data := Data.seq #[] }, toks := s.toks }) :=
  .of_wp fun prog w A R s h => by
    obtain ⟨hp, g, d, tk, os⟩ := s
    obtain ⟨hl, h⟩ := h
    have f1 := AutoSeq1.idx_int
    have c2 : (items.isEmpty || (0 : Int) == 1) = false := by rw [c1]; rfl
    wp_walk using wpAny_loadPart' hl
    exact ⟨_, rfl, h⟩
/-- a tuple, no times -/
def rRepT0 (K : PySem.W.Frag) : R2 := fun x y H Q => ∃ l xs, x = .ref l ∧ y = .int 0 ∧ SqT K H l xs ∧ xs ≠ [] ∧ ∀ p, H p = none → Q (.ref p) (upd H p (.tup []))
theorem op_repT0 {X : Cx} : OpR X (binaryOp .Mult) (rRepT0 X.K) := by
  intro pins s σ H x y v u Q I rx ry h
  obtain ⟨l, xs, rfl, rfl, hT, hne, q⟩ := h
  cases rx
  obtain ⟨t, rfl⟩ := ry
  obtain ⟨its, r, ⟨⟨cls, dd, data, sl⟩, ho, hc, n, hd⟩, hs⟩ := I.tuple hT
  simp only at hc hd
  subst hc hd
  have hle : its.length = xs.length := r.length.symm
  have hi : its.toArray.isEmpty = false := by
    cases its with
    | nil => exact absurd (List.eq_nil_of_length_eq_zero hle.symm) hne
    | cons a b => rfl
  refine wpAny_binaryOp_repeat_ref (T := "tuple") (U := "int") (by decide) ⟨_, ho, rfl⟩ (fun s' => typeIs_int s' 0 t) noFill_tuple_mul F.fills_int_mul F.slot_int_rmul repeat_tuple F.slot_int_index.lookup
    (call_meets F.slot_int_rmul (typeIs_int s 0 t) F.entry_int_rmul (F.args_int_rmul_2 _ _) (int_rmul_tuple 0 t l its.toArray n dd sl)
      ⟨ho, rfl, ⟨_, ho, rfl⟩, call_meets F.slot_tuple_mul ⟨_, ho, rfl⟩ F.entry_tuple_mul (F.args_tuple_mul_2 _ _) (tuple_mul0 l its.toArray n dd sl t hi) ⟨ho, ?_⟩⟩)
  refine ⟨.ref s.heap.objs.size, _, I.laid (t' := s.toks) (o := .tup []) (fun b ob q => Heap.get?_push_of_some _ q) (Nat.le_refl _) ?_, rfl, q _ (I.hok.fresh (Nat.le_refl _))⟩
  exact ⟨Nat.zero_le _, _, .nil, IsTup.new _ _⟩
def mulZ : PyData → PyData → Option PyData
  | .tuple xs, .int k => if k = 0 ∧ xs ≠ [] then some (.tuple []) else mulD (.tuple xs) (.int k)
  | x, y => mulD x y
abbrev mulRZ (K : PySem.W.Frag) : R2 := fun x y H Q => rRepT0 K x y H Q ∨ mulR K x y H Q
theorem op_mulZ {X : Cx} : OpR X (binaryOp .Mult) (mulRZ X.K) := OpR.or op_repT0 op_mulA
theorem spec_mulZ {K : PySem.W.Frag} : Spec2 (mulRZ K) mulZ := by
  intro z B σ H S ρ g x y d v u Q e I rx ry k
  by_cases hz : ∃ xs, x = .tuple xs ∧ y = .int 0 ∧ xs ≠ []
  · obtain ⟨xs, rfl, rfl, hne⟩ := hz
    have e' : (if (0 : Int) = 0 ∧ xs ≠ [] then some (PyData.tuple []) else mulD (PyData.tuple xs) (PyData.int 0)) = some d := e
    rw [if_pos ⟨rfl, hne⟩] at e'
    cases e'
    cases rx with
    | @tup a ys ds hx qx =>
      cases ry
      refine .inl ⟨a, ys, rfl, rfl, .of (I.sub _ _ hx), fun z => ?_, fun p hp => ?_⟩
      · subst z
        cases qx
        exact hne rfl
      · obtain ⟨I2, e2⟩ := I.alloc (o := .tup []) hp
        exact k _ _ _ I2 e2 (.tup upd_same .nil)
  · refine .inr (spec_mul z B σ H S ρ g x y d v u Q ?_ I rx ry k)
    unfold mulZ at e
    split at e
    · rename_i xs kk
      by_cases h : kk = 0 ∧ xs ≠ []
      · exact absurd ⟨xs, rfl, by rw [h.1], h.2⟩ hz
      · rw [if_neg h] at e; exact e
    · exact e
section
variable {X : Cx} {cls : Nat → Value} {W : WX} {pos : Pos} {a b : Expr} {fa fb : Ex}
theorem pd_mulZ (ha : PE X a (tE cls W fa)) (hb : PE X b (tE cls W fb)) : PE X (.BinOp a .Mult b pos) (tE cls W (opD mulZ fa fb)) := pd_bin op_mulZ spec_mulZ ha hb
end
end DL

set_option Elab.async false
set_option linter.all false
set_option maxRecDepth 100000
set_option maxHeartbeats 1000000
namespace K
open PySem PySem.Spec PyProof.Rows L2 DL
def topS (i : Nat) : Stmt := PySem.Challenge.pw_everypurse_k20_bundles_and_counts.main.body.getD i (.Pass ⟨0, 0, 0, 0⟩)
/-- how a def stands behind the top -/
abbrev Df (K : PySem.W.Frag) (mg : Str → Option Value) (x : Str) (st : Stmt) (ps : List Str) : Prop := ∃ (f : Addr) (fd : FuncData), Fun K x x st f fd ∧ mg x = some (.ref f) ∧ L2.Binds K fd ps []
abbrev DfM (K : PySem.W.Frag) (cls : Nat → Value) (c : Nat) (x q : Str) (st : Stmt) (ps : List Str) : Prop := ∃ (f : Addr) (fd : FuncData), Fun K x q st f fd ∧ Meth K (adr (cls c)) x f ∧ L2.Binds K fd ps []
abbrev DfI (K : PySem.W.Frag) (cls : Nat → Value) (c : Nat) (x q : Str) (st : Stmt) (ps : List Str) : Prop := ∃ (f : Addr) (fd : FuncData), Fun K x q st f fd ∧ Mk K (adr (cls c)) f ∧ L2.Binds K fd ps []
structure Tx (K : PySem.W.Frag) (mg : Str → Option Value) (cls : Nat → Value) : Prop where
  n_bool : mg "bool" = none
  n_int : mg "int" = none
  n_isinstance : mg "isinstance" = none
  n_len : mg "len" = none
  n_list : mg "list" = none
  n_max : mg "max" = none
  n_min : mg "min" = none
  n_range : mg "range" = none
  n_sorted : mg "sorted" = none
  n_str : mg "str" = none
  n_sum : mg "sum" = none
  n_tuple : mg "tuple" = none
  c_MOST_BASE : ∃ t, mg "MOST_BASE" = some (.int 1000000 t)
  c_MOST_BUNDLES : ∃ t, mg "MOST_BUNDLES" = some (.int 400 t)
  c_MOST_PLACES : ∃ t, mg "MOST_PLACES" = some (.int 3 t)
  c_MOST_RAY : ∃ t, mg "MOST_RAY" = some (.int 10000 t)
  c_MOST_RAYS : ∃ t, mg "MOST_RAYS" = some (.int 12 t)
  c_MOST_VECTOR : ∃ t, mg "MOST_VECTOR" = some (.int 40 t)
  e_0 : ExcN K mg cls 0 "BadArgument"
  x_0 : ∀ m, m < 2 → PySem.W.exmOne K (cls m) (cls 0) = some (decide (m = 0))
  g_0 : mg "BadArgument" = some (cls 0)
  e_1 : ExcN K mg cls 1 "BadFan"
  x_1 : ∀ m, m < 2 → PySem.W.exmOne K (cls m) (cls 1) = some (decide (m = 1))
  g_1 : mg "BadFan" = some (cls 1)
  ck_Counting : ClsK K cls 2 (adr (cls 2))
  gc_Counting : mg "Counting" = some (.ref (adr (cls 2)))
  na_Counting_rays_told : NoAttr K (adr (cls 2)) "rays_told"
  na_Counting_barred : NoAttr K (adr (cls 2)) "barred"
section
variable {P : Program} {w : World} {K : PySem.W.Frag} {mg : Str → Option Value} {base : Heap} {cls : Nat → Value}
abbrev s_law_mixed : Stmt := topS 28
abbrev N_law_mixed : List Str := ["number", "k", "step"]
theorem sc_law_mixed : FnScope N_law_mixed ["number", "k"] (defScope s_law_mixed) := ⟨rfl, rfl, rfl, by decide +kernel, rfl, by decide +kernel, by decide +kernel⟩
noncomputable def b_law_mixed : Sm := (seqS (setS 2 (opD modD (opD addD (opD addD (opD mulD (varD 0) (constD (.int 48271))) (opD mulD (varD 1) (constD (.int 69621)))) (constD (.int 12345))) (constD (.int 2147483647))))
  (retS (opD modD (opD addD (opD mulD (varD 2) (opD addD (opD fdivD (varD 2) (constD (.int 65536))) (constD (.int 3)))) (varD 1)) (constD (.int 2147483647)))))
noncomputable def m_law_mixed : Fn := fnD 1 false b_law_mixed
theorem ok_law_mixed (T : Tx K mg cls) (D : Df K mg "_law_mixed" s_law_mixed ["number", "k"])  : Kept P w K mg base cls "_law_mixed" ["number", "k"] false m_law_mixed 1 :=
  fn_ok (body := b_law_mixed) D sc_law_mixed fun f cdv A outer s H E hr => by
    have tk := takes_of (X := cxOf (L2.CX P w) P w K mg base N_law_mixed "_law_mixed" (defScope s_law_mixed) f cdv A outer s H E) (E := E) rfl rfl rfl rfl
    have hp := passes_of (X := cxOf (L2.CX P w) P w K mg base N_law_mixed "_law_mixed" (defScope s_law_mixed) f cdv A outer s H E) rfl
    exact (pssd_cons (psd_set 2 sc_law_mixed.nd (pd_mod (pd_add (pd_add (pd_mul (pd_var 0) pd_int) (pd_mul (pd_var 1) pd_int)) pd_int) pd_int))
    (pssd_one (psd_ret (pd_mod (pd_add (pd_mul (pd_var 2) (pd_add (pd_fdiv (pd_var 2) pd_int) pd_int)) (pd_var 1)) pd_int))))
abbrev s_law_numbers : Stmt := topS 29
abbrev N_law_numbers : List Str := ["script", "numbers", "cell", "rest", "k"]
theorem sc_law_numbers : FnScope N_law_numbers ["script"] (defScope s_law_numbers) := ⟨rfl, rfl, rfl, by decide +kernel, rfl, by decide +kernel, by decide +kernel⟩
noncomputable def b_law_numbers : Sm := (ifS (boolD (opD (cmpD fun i j => decide (j ≤ i)) (varD 2) (opD powD (constD (.int 10)) (constD (.int 18)))))
  (seqS (setS 3 (varD 2))
  (forS (rangeD (constD (.int 60))) (nameT 4)
  (ifS (boolD (opD (cmpD fun i j => decide (j < i)) (varD 3) (constD (.int 0))))
  (seqS (appS 1 (opD modD (varD 3) (constD (.int 1000000))))
  (setS 3 (opD fdivD (varD 3) (constD (.int 1000000)))))
  nextS)))
  (seqS (appS 1 (opD modD (varD 2) (constD (.int 1000000))))
  (forS (rangeD (constD (.int 5))) (nameT 4)
  (appS 1 (opD modD (callD 2 m_law_mixed (consD (callD 2 m_law_mixed (consD (opD modD (varD 2) (constD (.int 2147483647))) (consD (varD 4) nilD))) (consD (opD addD (varD 4) (constD (.int 7))) nilD))) (constD (.int 1000000)))))))
def t_law_numbers : Tg := (nameT 2)
theorem ok_law_numbers (T : Tx K mg cls) (D : Df K mg "_law_numbers" s_law_numbers ["script"]) (k_law_mixed : Kept P w K mg base cls "_law_mixed" ["number", "k"] false m_law_mixed 1)
    (hm : ∀ ns : List Int, ns.length ≤ 63 → ∃ (ms : List Int) (ρ' : Nv), Small ms ∧ forD t_law_numbers b_law_numbers (ns.map PyData.int) (.sc 0 :: .ow (.lst []) :: List.replicate 3 .no) none = .nx ρ' none ∧ ρ'[1]? = some (.ow (.lst (ms.map PyData.int)))) :
    ∃ (f : Addr) (fd : FuncData), mg "_law_numbers" = some (.ref f) ∧ PySem.W.keepIn K (.ref f) = true ∧ L2.Binds K fd ["script"] [] ∧ FnOk P w K mg base (L2.CX P w) 2 f fd ["script"] (spNum K) :=
  num_ok (t := t_law_numbers) (sb := b_law_numbers) D sc_law_numbers (fun f cdv A outer s H E ns hr => by
    have tk := takes_of (X := cxOf (L2.CX P w) P w K mg base N_law_numbers "_law_numbers" (defScope s_law_numbers) f cdv A outer s H E) (E := E) rfl rfl rfl rfl
    have hp := passes_of (X := cxOf (L2.CX P w) P w K mg base N_law_numbers "_law_numbers" (defScope s_law_numbers) f cdv A outer s H E) rfl
    exact pss_cons (psd_setO 1 sc_law_numbers.nd (po_lst pad_nil)) (pss_cons (psd_forSc 0 hp rfl (pgd_name 2 sc_law_numbers.nd)
    (pssd_one (psd_if (ptd_cmp c_ge (pd_var 2) (pd_pow pd_int pd_int))
    (pssd_cons (psd_set 3 sc_law_numbers.nd (pd_var 2))
    (pssd_one (psd_for hp rfl (pid_range T.n_range pd_int) (pgd_name 4 sc_law_numbers.nd)
    (pssd_one (psd_if (ptd_cmp c_gt (pd_var 3) pd_int)
    (pssd_cons (psd_app 1 (pd_mod (pd_var 3) pd_int))
    (pssd_one (psd_set 3 sc_law_numbers.nd (pd_fdiv (pd_var 3) pd_int))))
    pssd_nil)))))
    (pssd_cons (psd_app 1 (pd_mod (pd_var 2) pd_int))
    (pssd_one (psd_for hp rfl (pid_range T.n_range pd_int) (pgd_name 4 sc_law_numbers.nd)
    (pssd_one (psd_app 1 (pd_mod (pd_call k_law_mixed hr (by decide) tk (pad_cons (pd_call k_law_mixed hr (by decide) tk (pad_cons (pd_mod (pd_var 2) pd_int) (pad_cons (pd_var 4) pad_nil))) (pad_cons (pd_add (pd_var 4) pd_int) pad_nil))) pd_int))))))))) (pssd_shut 1 (pssd_one (psd_ret (pd_var 1)))))) hm
abbrev s_law_draw : Stmt := topS 30
abbrev N_law_draw : List Str := ["draws", "at", "first"]
theorem sc_law_draw : FnScope N_law_draw ["draws"] (defScope s_law_draw) := ⟨rfl, rfl, rfl, by decide +kernel, rfl, by decide +kernel, by decide +kernel⟩
noncomputable def b_law_draw : Sm := (seqS (setS 1 (dr1 0))
  (seqS (drSetS 0 (opD addD (varD 1) (constD (.int 1))))
  (seqS (ifS (boolD (opD (cmpD fun i j => decide (i < j)) (varD 1) (unD lenD (dr0 0))))
  (retS (opD ixD (dr0 0) (varD 1)))
  nextS)
  (seqS (setS 2 (opD addD (constD (.int 1)) (varD 1)))
  (seqS (ifS (boolD (opD (cmpD fun i j => decide (j < i)) (unD lenD (dr0 0)) (constD (.int 0))))
  (setS 2 (opD addD (varD 2) (opD mulD (constD (.int 1009)) (opD ixD (dr0 0) (constD (.int 0))))))
  nextS)
  (retS (opD modD (callD 2 m_law_mixed (consD (callD 2 m_law_mixed (consD (varD 2) (consD (varD 1) nilD))) (consD (constD (.int 5)) nilD))) (constD (.int 1000000)))))))))
noncomputable def m_law_draw : Fn := fnD 2 true b_law_draw
theorem ok_law_draw (T : Tx K mg cls) (D : Df K mg "_law_draw" s_law_draw ["draws"]) (k_law_mixed : Kept P w K mg base cls "_law_mixed" ["number", "k"] false m_law_mixed 1) : Kept P w K mg base cls "_law_draw" ["draws"] true m_law_draw 2 :=
  fn_ok (body := b_law_draw) D sc_law_draw fun f cdv A outer s H E hr => by
    have tk := takes_of (X := cxOf (L2.CX P w) P w K mg base N_law_draw "_law_draw" (defScope s_law_draw) f cdv A outer s H E) (E := E) rfl rfl rfl rfl
    have hp := passes_of (X := cxOf (L2.CX P w) P w K mg base N_law_draw "_law_draw" (defScope s_law_draw) f cdv A outer s H E) rfl
    exact (pssd_cons (psd_set 1 sc_law_draw.nd (pd_dr1 0))
    (pssd_cons (psd_drSet 0 (pd_add (pd_var 1) pd_int))
    (pssd_cons (psd_if (ptd_cmp c_lt (pd_var 1) (pd_len T.n_len (pd_dr0 0)))
    (pssd_one (psd_ret (pd_ix (pd_dr0 0) (pd_var 1))))
    pssd_nil)
    (pssd_cons (psd_set 2 sc_law_draw.nd (pd_add pd_int (pd_var 1)))
    (pssd_cons (psd_if (ptd_cmp c_gt (pd_len T.n_len (pd_dr0 0)) pd_int)
    (pssd_one (psd_set 2 sc_law_draw.nd (pd_add (pd_var 2) (pd_mul pd_int (pd_ix (pd_dr0 0) pd_int)))))
    pssd_nil)
    (pssd_one (psd_ret (pd_mod (pd_call k_law_mixed hr (by decide) tk (pad_cons (pd_call k_law_mixed hr (by decide) tk (pad_cons (pd_var 2) (pad_cons (pd_var 1) pad_nil))) (pad_cons pd_int pad_nil))) pd_int))))))))
abbrev s_law_bundle : Stmt := topS 33
abbrev N_law_bundle : List Str := ["draws", "d", "rays", "top", "some", "k", "ray", "j"]
theorem sc_law_bundle : FnScope N_law_bundle ["draws", "d", "rays", "top"] (defScope s_law_bundle) := ⟨rfl, rfl, rfl, by decide +kernel, rfl, by decide +kernel, by decide +kernel⟩
noncomputable def b_law_bundle : Sm := (seqS (setOS 4 (lstO nilD))
  (seqS (forS (rangeD (opD modD (callG 1 0 m_law_draw nilD) (opD addD (varD 2) (constD (.int 1))))) (nameT 5)
  (seqS (setS 6 (unD tupleD (shareO (lcO (rangeD (varD 1)) [7] (nameT 7) yesT (opD ixD (shareO (lstO (consD (constD (.int 0)) (consD (constD (.int 0)) (consD (constD (.int 1)) (consD (constD (.int 1)) (consD (constD (.int 2)) (consD (constD (.int 3)) (consD (varD 3) nilD))))))))) (opD modD (callG 1 0 m_law_draw nilD) (constD (.int 7))))))))
  (ifS (peekT 4 (andT (boolD (opD gtDD (unD maxDD (varD 6)) (constD (.int 0)))) (boolD (opD notInD (varD 6) (varD 4)))))
  (appS 4 (varD 6))
  nextS)))
  (shutS 4 (retS (tupD (consD (unD tupleD (shareO (lcO (rangeD (varD 1)) [7] (nameT 7) yesT (opD modD (callG 1 0 m_law_draw nilD) (opD addD (varD 3) (constD (.int 1))))))) (consD (shareO (sortDO (varD 4))) nilD)))))))
noncomputable def m_law_bundle : Fn := fnD 4 true b_law_bundle
theorem ok_law_bundle (T : Tx K mg cls) (D : Df K mg "_law_bundle" s_law_bundle ["draws", "d", "rays", "top"]) (k_law_draw : Kept P w K mg base cls "_law_draw" ["draws"] true m_law_draw 2) : Kept P w K mg base cls "_law_bundle" ["draws", "d", "rays", "top"] true m_law_bundle 3 :=
  fn_ok (body := b_law_bundle) D sc_law_bundle fun f cdv A outer s H E hr => by
    have tk := takes_of (X := cxOf (L2.CX P w) P w K mg base N_law_bundle "_law_bundle" (defScope s_law_bundle) f cdv A outer s H E) (E := E) rfl rfl rfl rfl
    have hp := passes_of (X := cxOf (L2.CX P w) P w K mg base N_law_bundle "_law_bundle" (defScope s_law_bundle) f cdv A outer s H E) rfl
    exact (pssd_cons (psd_setO 4 sc_law_bundle.nd (po_lst pad_nil))
    (pssd_cons (psd_for hp rfl (pid_range T.n_range (pd_mod (pd_callG 0 k_law_draw hr (by decide) tk pad_nil) (pd_add (pd_var 2) pd_int))) (pgd_name 5 sc_law_bundle.nd)
    (pssd_cons (psd_set 6 sc_law_bundle.nd (pd_tuple T.n_tuple (pd_share (po_lc (own := [("j", 7)]) rfl sc_law_bundle.nd (pid_range T.n_range (pd_var 1)) (blkOk_by (own := [("j", 7)]) (N := N_law_bundle) (sc := defScope s_law_bundle) (by decide +kernel)) (fun _ _ _ _ _ => (pgd_name 7 sc_law_bundle.nd)) (fun _ _ _ _ _ => ptsd_nil) (fun _ _ _ _ _ => (pd_ix (pd_share (po_lst (pad_cons pd_int (pad_cons pd_int (pad_cons pd_int (pad_cons pd_int (pad_cons pd_int (pad_cons pd_int (pad_cons (pd_var 3) pad_nil))))))))) (pd_mod (pd_callG 0 k_law_draw hr (by decide) takes0 pad_nil) pd_int)))))))
    (pssd_one (psd_if (ptd_peek 4 (PW.pt (pwd_and (ptd_cmp (c_gtD hr) (pd_maxDD hr rfl T.n_max (pd_var 6)) pd_int) (pwd_and1 (ptd_cmp (c_notIn hr) (pd_var 6) (pd_var 4))))))
    (pssd_one (psd_app 4 (pd_var 6)))
    pssd_nil))))
    (pssd_shut 4 (pssd_one (psd_ret (pd_tup (pad_cons (pd_tuple T.n_tuple (pd_share (po_lc (own := [("j", 7)]) rfl sc_law_bundle.nd (pid_range T.n_range (pd_var 1)) (blkOk_by (own := [("j", 7)]) (N := N_law_bundle) (sc := defScope s_law_bundle) (by decide +kernel)) (fun _ _ _ _ _ => (pgd_name 7 sc_law_bundle.nd)) (fun _ _ _ _ _ => ptsd_nil) (fun _ _ _ _ _ => (pd_mod (pd_callG 0 k_law_draw hr (by decide) takes0 pad_nil) (pd_add (pd_var 3) pd_int)))))) (pad_cons (pd_share (po_sortD hr T.n_sorted (pd_var 4))) pad_nil))))))))
abbrev s_law_all_equal : Stmt := topS 32
abbrev N_law_all_equal : List Str := ["actual", "due", "k"]
theorem sc_law_all_equal : FnScope N_law_all_equal ["actual", "due"] (defScope s_law_all_equal) := ⟨rfl, rfl, rfl, by decide +kernel, rfl, by decide +kernel, by decide +kernel⟩
def b_law_all_equal (m_law_equal : Fn) : Sm := (seqS (forS (rangeD (unD lenD (varD 1))) (nameT 2)
  (ifS (notT (truthD (callD 2 m_law_equal (consD (opD ixD (varD 0) (varD 2)) (consD (opD ixD (varD 1) (varD 2)) nilD)))))
  (retS (constD (.bool false)))
  nextS))
  (retS (constD (.bool true))))
theorem ok_law_all_equal {m_law_equal : Fn} {j : Nat} (T : Tx K mg cls) (D : Df K mg "_law_all_equal" s_law_all_equal ["actual", "due"]) (k_law_equal : Kept P w K mg base cls "_law_equal" ["actual", "due"] false m_law_equal j) : Kept P w K mg base cls "_law_all_equal" ["actual", "due"] false (fnD 1 false (b_law_all_equal m_law_equal)) (j + 1) :=
  fn_ok (body := b_law_all_equal m_law_equal) D sc_law_all_equal fun f cdv A outer s H E hr => by
    have tk := takes_of (X := cxOf (L2.CX P w) P w K mg base N_law_all_equal "_law_all_equal" (defScope s_law_all_equal) f cdv A outer s H E) (E := E) rfl rfl rfl rfl
    have hp := passes_of (X := cxOf (L2.CX P w) P w K mg base N_law_all_equal "_law_all_equal" (defScope s_law_all_equal) f cdv A outer s H E) rfl
    exact (pssd_cons (psd_for hp rfl (pid_range T.n_range (pd_len T.n_len (pd_var 1))) (pgd_name 2 sc_law_all_equal.nd)
    (pssd_one (psd_if (ptd_not (ptd_val (pd_call k_law_equal hr (Nat.le_refl _) tk (pad_cons (pd_ix (pd_var 0) (pd_var 2)) (pad_cons (pd_ix (pd_var 1) (pd_var 2)) pad_nil)))))
    (pssd_one (psd_ret pd_bl))
    pssd_nil)))
    (pssd_one (psd_ret pd_bl)))
abbrev s_law_equal : Stmt := topS 31
abbrev N_law_equal : List Str := ["actual", "due"]
theorem sc_law_equal : FnScope N_law_equal ["actual", "due"] (defScope s_law_equal) := ⟨rfl, rfl, rfl, by decide +kernel, rfl, by decide +kernel, by decide +kernel⟩
def b_law_equal (m_law_all_equal : Fn) : Sm := (seqS (ifS (truthD (unD (isiD "list") (varD 1)))
  (seqS (ifS (orT (notT (truthD (unD (isiD "list") (varD 0)))) (boolD (opD neD (unD lenD (varD 0)) (unD lenD (varD 1)))))
  (retS (constD (.bool false)))
  nextS)
  (retS (callD 2 m_law_all_equal (consD (varD 0) (consD (varD 1) nilD)))))
  nextS)
  (seqS (ifS (truthD (unD (isiD "tuple") (varD 1)))
  (seqS (ifS (orT (notT (truthD (unD (isiD "tuple") (varD 0)))) (boolD (opD neD (unD lenD (varD 0)) (unD lenD (varD 1)))))
  (retS (constD (.bool false)))
  nextS)
  (retS (callD 2 m_law_all_equal (consD (varD 0) (consD (varD 1) nilD)))))
  nextS)
  (seqS (ifS (truthD (unD (isiD "bool") (varD 1)))
  (retS (andV (unD (isiD "bool") (varD 0)) (opD eqD (varD 0) (varD 1))))
  nextS)
  (seqS (ifS (truthD (unD (isiD "int") (varD 1)))
  (retS (andV (unD (isiD "int") (varD 0)) (andV (notV (unD (isiD "bool") (varD 0))) (opD eqD (varD 0) (varD 1)))))
  nextS)
  (seqS (ifS (truthD (unD (isiD "str") (varD 1)))
  (retS (andV (unD (isiD "str") (varD 0)) (opD eqD (varD 0) (varD 1))))
  nextS)
  (retS (unD isNoneD (varD 0))))))))
theorem ok_law_equal {m_law_all_equal : Fn} {j : Nat} (T : Tx K mg cls) (D : Df K mg "_law_equal" s_law_equal ["actual", "due"]) (k_law_all_equal : Kept P w K mg base cls "_law_all_equal" ["actual", "due"] false m_law_all_equal j) : Kept P w K mg base cls "_law_equal" ["actual", "due"] false (fnD 0 false (b_law_equal m_law_all_equal)) (j + 1) :=
  fn_ok (body := b_law_equal m_law_all_equal) D sc_law_equal fun f cdv A outer s H E hr => by
    have tk := takes_of (X := cxOf (L2.CX P w) P w K mg base N_law_equal "_law_equal" (defScope s_law_equal) f cdv A outer s H E) (E := E) rfl rfl rfl rfl
    have hp := passes_of (X := cxOf (L2.CX P w) P w K mg base N_law_equal "_law_equal" (defScope s_law_equal) f cdv A outer s H E) rfl
    exact (pssd_cons (psd_if (ptd_val (pd_isi kit_list T.n_isinstance T.n_list PyProof.Rows.boot_list (pd_var 1)))
    (pssd_cons (psd_if (PW.pt (pwd_or (ptd_not (ptd_val (pd_isi kit_list T.n_isinstance T.n_list PyProof.Rows.boot_list (pd_var 0)))) (pwd_or1 (ptd_cmp (c_ne hr) (pd_len T.n_len (pd_var 0)) (pd_len T.n_len (pd_var 1))))))
    (pssd_one (psd_ret pd_bl))
    pssd_nil)
    (pssd_one (psd_ret (pd_call k_law_all_equal hr (Nat.le_refl _) tk (pad_cons (pd_var 0) (pad_cons (pd_var 1) pad_nil))))))
    pssd_nil)
    (pssd_cons (psd_if (ptd_val (pd_isi kit_tuple T.n_isinstance T.n_tuple PyProof.Rows.boot_tuple (pd_var 1)))
    (pssd_cons (psd_if (PW.pt (pwd_or (ptd_not (ptd_val (pd_isi kit_tuple T.n_isinstance T.n_tuple PyProof.Rows.boot_tuple (pd_var 0)))) (pwd_or1 (ptd_cmp (c_ne hr) (pd_len T.n_len (pd_var 0)) (pd_len T.n_len (pd_var 1))))))
    (pssd_one (psd_ret pd_bl))
    pssd_nil)
    (pssd_one (psd_ret (pd_call k_law_all_equal hr (Nat.le_refl _) tk (pad_cons (pd_var 0) (pad_cons (pd_var 1) pad_nil))))))
    pssd_nil)
    (pssd_cons (psd_if (ptd_val (pd_isi kit_bool T.n_isinstance T.n_bool PyProof.Rows.boot_bool (pd_var 1)))
    (pssd_one (psd_ret (pd_and (pd_isi kit_bool T.n_isinstance T.n_bool PyProof.Rows.boot_bool (pd_var 0)) (pd_one (pd_cmp (c_eq hr) (pd_var 0) (pd_var 1))))))
    pssd_nil)
    (pssd_cons (psd_if (ptd_val (pd_isi kit_int T.n_isinstance T.n_int PyProof.Rows.boot_int (pd_var 1)))
    (pssd_one (psd_ret (pd_and (pd_isi kit_int T.n_isinstance T.n_int PyProof.Rows.boot_int (pd_var 0)) (pd_and (pd_not (pd_isi kit_bool T.n_isinstance T.n_bool PyProof.Rows.boot_bool (pd_var 0))) (pd_one (pd_cmp (c_eq hr) (pd_var 0) (pd_var 1)))))))
    pssd_nil)
    (pssd_cons (psd_if (ptd_val (pd_isi kit_str T.n_isinstance T.n_str PyProof.Rows.boot_str (pd_var 1)))
    (pssd_one (psd_ret (pd_and (pd_isi kit_str T.n_isinstance T.n_str PyProof.Rows.boot_str (pd_var 0)) (pd_one (pd_cmp (c_eq hr) (pd_var 0) (pd_var 1))))))
    pssd_nil)
    (pssd_one (psd_ret (pd_isN (pd_var 0)))))))))
mutual
def eqA : Nat → Fn
  | 0 => fun _ _ => .bad
  | n + 1 => fnD 0 false (b_law_equal (eqB n))
def eqB : Nat → Fn
  | 0 => fun _ _ => .bad
  | n + 1 => fnD 1 false (b_law_all_equal (eqA n))
end
def m_law_equal : Fn := eqA 16
theorem ok_eqs (T : Tx K mg cls) (D1 : Df K mg "_law_equal" s_law_equal ["actual", "due"]) (D2 : Df K mg "_law_all_equal" s_law_all_equal ["actual", "due"]) : ∀ n : Nat, Kept P w K mg base cls "_law_equal" ["actual", "due"] false (eqA n) (n + 1) ∧ Kept P w K mg base cls "_law_all_equal" ["actual", "due"] false (eqB n) (n + 1)
  | 0 => ⟨by unfold eqA; exact kept_bad D1, by unfold eqB; exact kept_bad D2⟩
  | n + 1 => by
    obtain ⟨h1, h2⟩ := ok_eqs T D1 D2 n
    exact ⟨by unfold eqA; exact ok_law_equal T D1 h2, by unfold eqB; exact ok_law_all_equal T D2 h1⟩
theorem ok_law_equal40 (T : Tx K mg cls) (D1 : Df K mg "_law_equal" s_law_equal ["actual", "due"]) (D2 : Df K mg "_law_all_equal" s_law_all_equal ["actual", "due"]) : Kept P w K mg base cls "_law_equal" ["actual", "due"] false m_law_equal 40 := (ok_eqs T D1 D2 16).1.mono (by decide)
abbrev s_law_counts : Stmt := topS 34
abbrev N_law_counts : List Str := ["base", "rays", "vector", "here", "times", "more", "k"]
theorem sc_law_counts : FnScope N_law_counts ["base", "rays", "vector"] (defScope s_law_counts) := ⟨rfl, rfl, rfl, by decide +kernel, rfl, by decide +kernel, by decide +kernel⟩
noncomputable def b_law_counts (m_law_counts : Fn) : Sm := (seqS (ifS (boolD (opD eqD (unD lenD (varD 1)) (constD (.int 0))))
  (retS (ifD (boolD (opD eqD (varD 0) (varD 2))) (tupD nilD) (constD .none)))
  nextS)
  (seqS (setS 3 (varD 0))
  (seqS (setS 4 (constD (.int 0)))
  (seqS (whileS (boolD (opD eqD (unD lenD (shareO (lcO (rangeD (unD lenD (varD 2))) [6] (nameT 6) (boolD (opD (cmpD fun i j => decide (j < i)) (opD ixD (varD 3) (varD 6)) (opD ixD (varD 2) (varD 6)))) (varD 6)))) (constD (.int 0))))
  (seqS (setS 5 (callD 3 m_law_counts (consD (varD 3) (consD (slD (varD 1) (somePart (constD (.int 1))) noPart) (consD (varD 2) nilD)))))
  (seqS (ifS (boolD (unD notNoneD (varD 5)))
  (retS (opD addD (tupD (consD (varD 4) nilD)) (varD 5)))
  nextS)
  (seqS (setS 3 (unD tupleD (shareO (lcO (rangeD (unD lenD (varD 2))) [6] (nameT 6) yesT (opD addD (opD ixD (varD 3) (varD 6)) (opD ixD (opD ixD (varD 1) (constD (.int 0))) (varD 6)))))))
  (setS 4 (opD addD (varD 4) (constD (.int 1))))))))
  (retS (constD .none))))))
noncomputable def mN_law_counts : Nat → Fn
  | 0 => fun _ _ => .bad
  | n + 1 => fnD 4 false (b_law_counts (mN_law_counts n))
noncomputable def m_law_counts : Fn := mN_law_counts 5
theorem okS_law_counts {m_law_counts : Fn} {j : Nat} (hj : 0 ≤ j) (T : Tx K mg cls) (D : Df K mg "_law_counts" s_law_counts ["base", "rays", "vector"])  (k_law_counts : Kept P w K mg base cls "_law_counts" ["base", "rays", "vector"] false m_law_counts j) : Kept P w K mg base cls "_law_counts" ["base", "rays", "vector"] false (fnD 4 false (b_law_counts m_law_counts)) (j + 1) :=
  fn_ok (body := b_law_counts m_law_counts) D sc_law_counts fun f cdv A outer s H E hr => by
    have tk := takes_of (X := cxOf (L2.CX P w) P w K mg base N_law_counts "_law_counts" (defScope s_law_counts) f cdv A outer s H E) (E := E) rfl rfl rfl rfl
    have hp := passes_of (X := cxOf (L2.CX P w) P w K mg base N_law_counts "_law_counts" (defScope s_law_counts) f cdv A outer s H E) rfl
    exact (pssd_cons (psd_if (ptd_cmp (c_eq hr) (pd_len T.n_len (pd_var 1)) pd_int)
    (pssd_one (psd_ret (pd_if (ptd_cmp (c_eq hr) (pd_var 0) (pd_var 2)) (pd_tup pad_nil) pd_non)))
    pssd_nil)
    (pssd_cons (psd_set 3 sc_law_counts.nd (pd_var 0))
    (pssd_cons (psd_set 4 sc_law_counts.nd pd_int)
    (pssd_cons (psd_while hp (ptd_cmp (c_eq hr) (pd_len T.n_len (pd_share (po_lc (own := [("k", 6)]) rfl sc_law_counts.nd (pid_range T.n_range (pd_len T.n_len (pd_var 2))) (blkOk_by (own := [("k", 6)]) (N := N_law_counts) (sc := defScope s_law_counts) (by decide +kernel)) (fun _ _ _ _ _ => (pgd_name 6 sc_law_counts.nd)) (fun _ _ _ _ _ => (ptsd_one (ptd_cmp c_gt (pd_ix (pd_var 3) (pd_var 6)) (pd_ix (pd_var 2) (pd_var 6))))) (fun _ _ _ _ _ => (pd_var 6))))) pd_int)
    (pssd_cons (psd_set 5 sc_law_counts.nd (pd_call k_law_counts hr (Nat.le_refl _) tk (pad_cons (pd_var 3) (pad_cons (pd_slice (pd_var 1) (po_so pd_int) po_no) (pad_cons (pd_var 2) pad_nil)))))
    (pssd_cons (psd_if (ptd_notN (pd_var 5))
    (pssd_one (psd_ret (pd_add (pd_tup (pad_cons (pd_var 4) pad_nil)) (pd_var 5))))
    pssd_nil)
    (pssd_cons (psd_set 3 sc_law_counts.nd (pd_tuple T.n_tuple (pd_share (po_lc (own := [("k", 6)]) rfl sc_law_counts.nd (pid_range T.n_range (pd_len T.n_len (pd_var 2))) (blkOk_by (own := [("k", 6)]) (N := N_law_counts) (sc := defScope s_law_counts) (by decide +kernel)) (fun _ _ _ _ _ => (pgd_name 6 sc_law_counts.nd)) (fun _ _ _ _ _ => ptsd_nil) (fun _ _ _ _ _ => (pd_add (pd_ix (pd_var 3) (pd_var 6)) (pd_ix (pd_ix (pd_var 1) pd_int) (pd_var 6))))))))
    (pssd_one (psd_set 4 sc_law_counts.nd (pd_add (pd_var 4) pd_int)))))))
    (pssd_one (psd_ret pd_non))))))
theorem okN_law_counts (T : Tx K mg cls) (D : Df K mg "_law_counts" s_law_counts ["base", "rays", "vector"])  : ∀ n : Nat, Kept P w K mg base cls "_law_counts" ["base", "rays", "vector"] false (mN_law_counts n) (n + 0)
  | 0 => by unfold mN_law_counts; exact kept_bad D
  | n + 1 => by unfold mN_law_counts; exact okS_law_counts (Nat.le_add_left _ n) T D  (okN_law_counts T D  n)
theorem ok_law_counts (T : Tx K mg cls) (D : Df K mg "_law_counts" s_law_counts ["base", "rays", "vector"])  : Kept P w K mg base cls "_law_counts" ["base", "rays", "vector"] false m_law_counts 5 := okN_law_counts T D  5
abbrev s_is_between : Stmt := topS 11
abbrev N_is_between : List Str := ["value", "low", "high"]
theorem sc_is_between : FnScope N_is_between ["value", "low", "high"] (defScope s_is_between) := ⟨rfl, rfl, rfl, by decide +kernel, rfl, by decide +kernel, by decide +kernel⟩
noncomputable def b_is_between : Sm := (retS (andV (unD (isiD "int") (varD 0)) (andV (notV (unD (isiD "bool") (varD 0))) (chainD (cmpD fun i j => decide (i ≤ j)) (cmpD fun i j => decide (i ≤ j)) (varD 1) (varD 0) (varD 2)))))
noncomputable def m_is_between : Fn := fnD 0 false b_is_between
theorem ok_is_between (T : Tx K mg cls) (D : Df K mg "is_between" s_is_between ["value", "low", "high"])  : Kept P w K mg base cls "is_between" ["value", "low", "high"] false m_is_between 1 :=
  fn_ok (body := b_is_between) D sc_is_between fun f cdv A outer s H E hr => by
    have tk := takes_of (X := cxOf (L2.CX P w) P w K mg base N_is_between "is_between" (defScope s_is_between) f cdv A outer s H E) (E := E) rfl rfl rfl rfl
    have hp := passes_of (X := cxOf (L2.CX P w) P w K mg base N_is_between "is_between" (defScope s_is_between) f cdv A outer s H E) rfl
    exact (pssd_one (psd_ret (pd_and (pd_isi kit_int T.n_isinstance T.n_int PyProof.Rows.boot_int (pd_var 0)) (pd_and (pd_not (pd_isi kit_bool T.n_isinstance T.n_bool PyProof.Rows.boot_bool (pd_var 0))) (pd_one (pd_chain c_le c_le (pd_var 1) (pd_var 0) (pd_var 2)))))))
abbrev s_is_row : Stmt := topS 12
abbrev N_is_row : List Str := ["value", "many", "low", "high", "one"]
theorem sc_is_row : FnScope N_is_row ["value", "many", "low", "high"] (defScope s_is_row) := ⟨rfl, rfl, rfl, by decide +kernel, rfl, by decide +kernel, by decide +kernel⟩
noncomputable def b_is_row : Sm := (seqS (ifS (orT (notT (truthD (unD (isiD "tuple") (varD 0)))) (boolD (opD neD (unD lenD (varD 0)) (varD 1))))
  (retS (constD (.bool false)))
  nextS)
  (retS (opD eqD (shareO (lcO (itemsD (varD 0)) [4] (nameT 4) (notT (truthD (callD 3 m_is_between (consD (varD 4) (consD (varD 2) (consD (varD 3) nilD)))))) (varD 4))) (shareO (lstO nilD)))))
noncomputable def m_is_row : Fn := fnD 1 false b_is_row
theorem ok_is_row (T : Tx K mg cls) (D : Df K mg "is_row" s_is_row ["value", "many", "low", "high"]) (k_is_between : Kept P w K mg base cls "is_between" ["value", "low", "high"] false m_is_between 1) : Kept P w K mg base cls "is_row" ["value", "many", "low", "high"] false m_is_row 2 :=
  fn_ok (body := b_is_row) D sc_is_row fun f cdv A outer s H E hr => by
    have tk := takes_of (X := cxOf (L2.CX P w) P w K mg base N_is_row "is_row" (defScope s_is_row) f cdv A outer s H E) (E := E) rfl rfl rfl rfl
    have hp := passes_of (X := cxOf (L2.CX P w) P w K mg base N_is_row "is_row" (defScope s_is_row) f cdv A outer s H E) rfl
    exact (pssd_cons (psd_if (PW.pt (pwd_or (ptd_not (ptd_val (pd_isi kit_tuple T.n_isinstance T.n_tuple PyProof.Rows.boot_tuple (pd_var 0)))) (pwd_or1 (ptd_cmp (c_ne hr) (pd_len T.n_len (pd_var 0)) (pd_var 1)))))
    (pssd_one (psd_ret pd_bl))
    pssd_nil)
    (pssd_one (psd_ret (pd_cmp (c_eq hr) (pd_share (po_lc (own := [("one", 4)]) rfl sc_is_row.nd (pid_seq (pd_var 0)) (blkOk_by (own := [("one", 4)]) (N := N_is_row) (sc := defScope s_is_row) (by decide +kernel)) (fun _ _ _ _ _ => (pgd_name 4 sc_is_row.nd)) (fun _ _ _ _ _ => (ptsd_one (ptd_not (ptd_val (pd_call k_is_between hr (by decide) takes0 (pad_cons (pd_var 4) (pad_cons (pd_var 2) (pad_cons (pd_var 3) pad_nil)))))))) (fun _ _ _ _ _ => (pd_var 4)))) (pd_share (po_lst pad_nil))))))
abbrev s_is_bundle : Stmt := topS 14
abbrev N_is_bundle : List Str := ["value", "many", "ray", "k"]
theorem sc_is_bundle : FnScope N_is_bundle ["value"] (defScope s_is_bundle) := ⟨rfl, rfl, rfl, by decide +kernel, rfl, by decide +kernel, by decide +kernel⟩
noncomputable def b_is_bundle : Sm := (seqS (ifS (orT (notT (truthD (unD (isiD "tuple") (varD 0)))) (orT (boolD (opD neD (unD lenD (varD 0)) (constD (.int 2)))) (notT (truthD (unD (isiD "tuple") (opD ixD (varD 0) (constD (.int 0))))))))
  (retS (constD (.bool false)))
  nextS)
  (seqS (setS 1 (unD lenD (opD ixD (varD 0) (constD (.int 0)))))
  (seqS (ifS (orT (notT (boolD (chainD leDD leDD (constD (.int 1)) (varD 1) (constD (.int 3))))) (notT (truthD (callD 4 m_is_row (consD (opD ixD (varD 0) (constD (.int 0))) (consD (varD 1) (consD (constD (.int 0)) (consD (constD (.int 1000000)) nilD))))))))
  (retS (constD (.bool false)))
  nextS)
  (seqS (ifS (orT (notT (truthD (unD (isiD "list") (opD ixD (varD 0) (constD (.int 1)))))) (boolD (opD gtDD (unD lenD (opD ixD (varD 0) (constD (.int 1)))) (constD (.int 12)))))
  (retS (constD (.bool false)))
  nextS)
  (seqS (ifS (truthD (shareO (lcO (itemsD (opD ixD (varD 0) (constD (.int 1)))) [2] (nameT 2) (orT (notT (truthD (callD 4 m_is_row (consD (varD 2) (consD (varD 1) (consD (constD (.int 0)) (consD (constD (.int 10000)) nilD))))))) (boolD (opD eqD (unD maxDD (varD 2)) (constD (.int 0))))) (varD 2))))
  (retS (constD (.bool false)))
  nextS)
  (retS (opD eqD (shareO (lcO (range2D (constD (.int 1)) (unD lenD (opD ixD (varD 0) (constD (.int 1))))) [3] (nameT 3) (boolD (opD geDD (opD ixD (opD ixD (varD 0) (constD (.int 1))) (opD subD (varD 3) (constD (.int 1)))) (opD ixD (opD ixD (varD 0) (constD (.int 1))) (varD 3)))) (varD 3))) (shareO (lstO nilD)))))))))
noncomputable def m_is_bundle : Fn := fnD 3 false b_is_bundle
theorem ok_is_bundle (T : Tx K mg cls) (D : Df K mg "is_bundle" s_is_bundle ["value"]) (k_is_row : Kept P w K mg base cls "is_row" ["value", "many", "low", "high"] false m_is_row 2) : Kept P w K mg base cls "is_bundle" ["value"] false m_is_bundle 3 :=
  fn_ok (body := b_is_bundle) D sc_is_bundle fun f cdv A outer s H E hr => by
    have tk := takes_of (X := cxOf (L2.CX P w) P w K mg base N_is_bundle "is_bundle" (defScope s_is_bundle) f cdv A outer s H E) (E := E) rfl rfl rfl rfl
    have hp := passes_of (X := cxOf (L2.CX P w) P w K mg base N_is_bundle "is_bundle" (defScope s_is_bundle) f cdv A outer s H E) rfl
    exact (pssd_cons (psd_if (PW.pt (pwd_or (ptd_not (ptd_val (pd_isi kit_tuple T.n_isinstance T.n_tuple PyProof.Rows.boot_tuple (pd_var 0)))) (pwd_or (ptd_cmp (c_ne hr) (pd_len T.n_len (pd_var 0)) pd_int) (pwd_or1 (ptd_not (ptd_val (pd_isi kit_tuple T.n_isinstance T.n_tuple PyProof.Rows.boot_tuple (pd_ix (pd_var 0) pd_int))))))))
    (pssd_one (psd_ret pd_bl))
    pssd_nil)
    (pssd_cons (psd_set 1 sc_is_bundle.nd (pd_len T.n_len (pd_ix (pd_var 0) pd_int)))
    (pssd_cons (psd_if (PW.pt (pwd_or (ptd_not (ptd_chain (c_leD hr) (c_leD hr) pd_int (pd_var 1) (pd_globI T.c_MOST_PLACES))) (pwd_or1 (ptd_not (ptd_val (pd_call k_is_row hr (by decide) tk (pad_cons (pd_ix (pd_var 0) pd_int) (pad_cons (pd_var 1) (pad_cons pd_int (pad_cons (pd_globI T.c_MOST_BASE) pad_nil))))))))))
    (pssd_one (psd_ret pd_bl))
    pssd_nil)
    (pssd_cons (psd_if (PW.pt (pwd_or (ptd_not (ptd_val (pd_isi kit_list T.n_isinstance T.n_list PyProof.Rows.boot_list (pd_ix (pd_var 0) pd_int)))) (pwd_or1 (ptd_cmp (c_gtD hr) (pd_len T.n_len (pd_ix (pd_var 0) pd_int)) (pd_globI T.c_MOST_RAYS)))))
    (pssd_one (psd_ret pd_bl))
    pssd_nil)
    (pssd_cons (psd_if (ptd_val (pd_share (po_lc (own := [("ray", 2)]) rfl sc_is_bundle.nd (pid_seq (pd_ix (pd_var 0) pd_int)) (blkOk_by (own := [("ray", 2)]) (N := N_is_bundle) (sc := defScope s_is_bundle) (by decide +kernel)) (fun _ _ _ _ _ => (pgd_name 2 sc_is_bundle.nd)) (fun _ _ _ _ _ => (ptsd_one (PW.pt (pwd_or (ptd_not (ptd_val (pd_call k_is_row hr (by decide) takes0 (pad_cons (pd_var 2) (pad_cons (pd_var 1) (pad_cons pd_int (pad_cons (pd_globI T.c_MOST_RAY) pad_nil))))))) (pwd_or1 (ptd_cmp (c_eq hr) (pd_maxDD hr rfl T.n_max (pd_var 2)) pd_int)))))) (fun _ _ _ _ _ => (pd_var 2)))))
    (pssd_one (psd_ret pd_bl))
    pssd_nil)
    (pssd_one (psd_ret (pd_cmp (c_eq hr) (pd_share (po_lc (own := [("k", 3)]) rfl sc_is_bundle.nd (pid_range2 T.n_range pd_int (pd_len T.n_len (pd_ix (pd_var 0) pd_int))) (blkOk_by (own := [("k", 3)]) (N := N_is_bundle) (sc := defScope s_is_bundle) (by decide +kernel)) (fun _ _ _ _ _ => (pgd_name 3 sc_is_bundle.nd)) (fun _ _ _ _ _ => (ptsd_one (ptd_cmp (c_geD hr) (pd_ix (pd_ix (pd_var 0) pd_int) (pd_sub (pd_var 3) pd_int)) (pd_ix (pd_ix (pd_var 0) pd_int) (pd_var 3))))) (fun _ _ _ _ _ => (pd_var 3)))) (pd_share (po_lst pad_nil))))))))))
abbrev s_check_bundle : Stmt := topS 15
abbrev N_check_bundle : List Str := ["value"]
theorem sc_check_bundle : FnScope N_check_bundle ["value"] (defScope s_check_bundle) := ⟨rfl, rfl, rfl, by decide +kernel, rfl, by decide +kernel, by decide +kernel⟩
noncomputable def b_check_bundle : Sm := (ifS (notT (truthD (callD 1 m_is_bundle (consD (varD 0) nilD))))
  (raiseS 1)
  nextS)
noncomputable def m_check_bundle : Fn := fnD 0 false b_check_bundle
theorem ok_check_bundle (T : Tx K mg cls) (D : Df K mg "check_bundle" s_check_bundle ["value"]) (k_is_bundle : Kept P w K mg base cls "is_bundle" ["value"] false m_is_bundle 3) : Kept P w K mg base cls "check_bundle" ["value"] false m_check_bundle 4 :=
  fn_ok (body := b_check_bundle) D sc_check_bundle fun f cdv A outer s H E hr => by
    have tk := takes_of (X := cxOf (L2.CX P w) P w K mg base N_check_bundle "check_bundle" (defScope s_check_bundle) f cdv A outer s H E) (E := E) rfl rfl rfl rfl
    have hp := passes_of (X := cxOf (L2.CX P w) P w K mg base N_check_bundle "check_bundle" (defScope s_check_bundle) f cdv A outer s H E) rfl
    exact (pssd_one (psd_if (ptd_not (ptd_val (pd_call k_is_bundle hr (by decide) tk (pad_cons (pd_var 0) pad_nil))))
    (pssd_one (psd_raise T.e_1 rfl tk))
    pssd_nil))
abbrev s_check_vector : Stmt := topS 17
abbrev N_check_vector : List Str := ["value", "many"]
theorem sc_check_vector : FnScope N_check_vector ["value", "many"] (defScope s_check_vector) := ⟨rfl, rfl, rfl, by decide +kernel, rfl, by decide +kernel, by decide +kernel⟩
noncomputable def b_check_vector : Sm := (ifS (notT (truthD (callD 4 m_is_row (consD (varD 0) (consD (varD 1) (consD (constD (.int 0)) (consD (constD (.int 40)) nilD)))))))
  (raiseS 0)
  nextS)
noncomputable def m_check_vector : Fn := fnD 0 false b_check_vector
theorem ok_check_vector (T : Tx K mg cls) (D : Df K mg "check_vector" s_check_vector ["value", "many"]) (k_is_row : Kept P w K mg base cls "is_row" ["value", "many", "low", "high"] false m_is_row 2) : Kept P w K mg base cls "check_vector" ["value", "many"] false m_check_vector 3 :=
  fn_ok (body := b_check_vector) D sc_check_vector fun f cdv A outer s H E hr => by
    have tk := takes_of (X := cxOf (L2.CX P w) P w K mg base N_check_vector "check_vector" (defScope s_check_vector) f cdv A outer s H E) (E := E) rfl rfl rfl rfl
    have hp := passes_of (X := cxOf (L2.CX P w) P w K mg base N_check_vector "check_vector" (defScope s_check_vector) f cdv A outer s H E) rfl
    exact (pssd_one (psd_if (ptd_not (ptd_val (pd_call k_is_row hr (by decide) tk (pad_cons (pd_var 0) (pad_cons (pd_var 1) (pad_cons pd_int (pad_cons (pd_globI T.c_MOST_VECTOR) pad_nil)))))))
    (pssd_one (psd_raise T.e_0 rfl tk))
    pssd_nil))
abbrev s_added : Stmt := topS 19
abbrev N_added : List Str := ["one", "other", "times", "k"]
theorem sc_added : FnScope N_added ["one", "other", "times"] (defScope s_added) := ⟨rfl, rfl, rfl, by decide +kernel, rfl, by decide +kernel, by decide +kernel⟩
noncomputable def b_added : Sm := (retS (unD tupleD (shareO (lcO (rangeD (unD lenD (varD 0))) [3] (nameT 3) yesT (opD addD (opD ixD (varD 0) (varD 3)) (opD mulD (varD 2) (opD ixD (varD 1) (varD 3))))))))
noncomputable def m_added : Fn := fnD 1 false b_added
theorem ok_added (T : Tx K mg cls) (D : Df K mg "added" s_added ["one", "other", "times"])  : Kept P w K mg base cls "added" ["one", "other", "times"] false m_added 1 :=
  fn_ok (body := b_added) D sc_added fun f cdv A outer s H E hr => by
    have tk := takes_of (X := cxOf (L2.CX P w) P w K mg base N_added "added" (defScope s_added) f cdv A outer s H E) (E := E) rfl rfl rfl rfl
    have hp := passes_of (X := cxOf (L2.CX P w) P w K mg base N_added "added" (defScope s_added) f cdv A outer s H E) rfl
    exact (pssd_one (psd_ret (pd_tuple T.n_tuple (pd_share (po_lc (own := [("k", 3)]) rfl sc_added.nd (pid_range T.n_range (pd_len T.n_len (pd_var 0))) (blkOk_by (own := [("k", 3)]) (N := N_added) (sc := defScope s_added) (by decide +kernel)) (fun _ _ _ _ _ => (pgd_name 3 sc_added.nd)) (fun _ _ _ _ _ => ptsd_nil) (fun _ _ _ _ _ => (pd_add (pd_ix (pd_var 0) (pd_var 3)) (pd_mul (pd_var 2) (pd_ix (pd_var 1) (pd_var 3))))))))))
abbrev s_Counting__init : Stmt := inClass (topS 20) 0
abbrev N_Counting__init : List Str := ["self", "rays"]
theorem sc_Counting__init : FnScope N_Counting__init ["self", "rays"] (defScope s_Counting__init) := ⟨rfl, rfl, rfl, by decide +kernel, rfl, by decide +kernel, by decide +kernel⟩
noncomputable def b_Counting__init : Sm := (seqS (setAtS 0 2 "rays_told" (varD 1))
  (setAtOS 0 2 "barred" dictNO))
noncomputable def m_Counting__init : Fn := fnI 0 b_Counting__init
theorem ok_Counting__init (T : Tx K mg cls) (D : DfI K cls 2 "__init__" "Counting.__init__" s_Counting__init ["self", "rays"])  : KeptI P w K mg base cls (adr (cls 2)) ["self", "rays"] m_Counting__init 1 :=
  fn_okI (body := b_Counting__init) D sc_Counting__init fun f cdv A outer s H E hr => by
    have tk := takes_of (X := cxOf (L2.CX P w) P w K mg base N_Counting__init "Counting.__init__" (defScope s_Counting__init) f cdv A outer s H E) (E := E) rfl rfl rfl rfl
    have hp := passes_of (X := cxOf (L2.CX P w) P w K mg base N_Counting__init "Counting.__init__" (defScope s_Counting__init) f cdv A outer s H E) rfl
    exact (pssd_cons (psd_setAt 0 T.ck_Counting T.na_Counting_rays_told (pd_var 1))
    (pssd_one (psd_setAtO 0 T.ck_Counting T.na_Counting_barred po_dictN)))
abbrev s_Counting__counts_from : Stmt := inClass (topS 20) 1
abbrev N_Counting__counts_from : List Str := ["self", "k", "rest", "times", "left", "found"]
theorem sc_Counting__counts_from : FnScope N_Counting__counts_from ["self", "k", "rest"] (defScope s_Counting__counts_from) := ⟨rfl, rfl, rfl, by decide +kernel, rfl, by decide +kernel, by decide +kernel⟩
noncomputable def b_Counting__counts_from (m_Counting__counts_from : Fn) : Sm := (seqS (ifS (boolD (opD eqD (unD maxDD (varD 2)) (constD (.int 0))))
  (retS (opD mulZ (tupD (consD (constD (.int 0)) nilD)) (opD subD (unD lenD (atD 0 2 "rays_told")) (varD 1))))
  nextS)
  (seqS (ifS (orT (boolD (opD eqD (varD 1) (unD lenD (atD 0 2 "rays_told")))) (boolD (inAtD false 0 2 "barred" (tupD (consD (varD 1) (consD (varD 2) nilD))))))
  (retS (constD .none))
  nextS)
  (seqS (setS 3 (constD (.int 0)))
  (seqS (setS 4 (varD 2))
  (seqS (whileS (boolD (opD geDD (unD minDD (varD 4)) (constD (.int 0))))
  (seqS (setS 5 (callM 3 0 2 "counts_from" m_Counting__counts_from (consD (opD addD (varD 1) (constD (.int 1))) (consD (varD 4) nilD))))
  (seqS (ifS (boolD (unD notNoneD (varD 5)))
  (retS (opD addD (tupD (consD (varD 3) nilD)) (varD 5)))
  nextS)
  (seqS (setS 3 (opD addD (varD 3) (constD (.int 1))))
  (setS 4 (callD 3 m_added (consD (varD 2) (consD (opD ixD (atD 0 2 "rays_told") (varD 1)) (consD (unD negD (varD 3)) nilD)))))))))
  (seqS (keyAtS 0 2 "barred" (tupD (consD (varD 1) (consD (varD 2) nilD))) (constD (.bool true)))
  (retS (constD .none))))))))
noncomputable def mN_Counting__counts_from : Nat → Fn
  | 0 => fun _ _ => .bad
  | n + 1 => fnD 3 true (b_Counting__counts_from (mN_Counting__counts_from n))
noncomputable def m_Counting__counts_from : Fn := mN_Counting__counts_from 5
theorem okS_Counting__counts_from {m_Counting__counts_from : Fn} {j : Nat} (hj : 1 ≤ j) (T : Tx K mg cls) (D : DfM K cls 2 "counts_from" "Counting.counts_from" s_Counting__counts_from ["self", "k", "rest"]) (k_added : Kept P w K mg base cls "added" ["one", "other", "times"] false m_added 1) (k_Counting__counts_from : KeptM P w K mg base cls (adr (cls 2)) "counts_from" ["self", "k", "rest"] m_Counting__counts_from j) : KeptM P w K mg base cls (adr (cls 2)) "counts_from" ["self", "k", "rest"] (fnD 3 true (b_Counting__counts_from m_Counting__counts_from)) (j + 1) :=
  fn_okM (body := b_Counting__counts_from m_Counting__counts_from) D sc_Counting__counts_from fun f cdv A outer s H E hr => by
    have tk := takes_of (X := cxOf (L2.CX P w) P w K mg base N_Counting__counts_from "Counting.counts_from" (defScope s_Counting__counts_from) f cdv A outer s H E) (E := E) rfl rfl rfl rfl
    have hp := passes_of (X := cxOf (L2.CX P w) P w K mg base N_Counting__counts_from "Counting.counts_from" (defScope s_Counting__counts_from) f cdv A outer s H E) rfl
    exact (pssd_cons (psd_if (ptd_cmp (c_eq hr) (pd_maxDD hr rfl T.n_max (pd_var 2)) pd_int)
    (pssd_one (psd_ret (pd_mulZ (pd_tup (pad_cons pd_int pad_nil)) (pd_sub (pd_len T.n_len (pd_at 0 T.ck_Counting T.na_Counting_rays_told)) (pd_var 1)))))
    pssd_nil)
    (pssd_cons (psd_if (PW.pt (pwd_or (ptd_cmp (c_eq hr) (pd_var 1) (pd_len T.n_len (pd_at 0 T.ck_Counting T.na_Counting_rays_told))) (pwd_or1 (ptd_inAt 0 hr T.ck_Counting T.na_Counting_barred (pd_tup (pad_cons (pd_var 1) (pad_cons (pd_var 2) pad_nil)))))))
    (pssd_one (psd_ret pd_non))
    pssd_nil)
    (pssd_cons (psd_set 3 sc_Counting__counts_from.nd pd_int)
    (pssd_cons (psd_set 4 sc_Counting__counts_from.nd (pd_var 2))
    (pssd_cons (psd_while hp (ptd_cmp (c_geD hr) (pd_minDD hr rfl T.n_min (pd_var 4)) pd_int)
    (pssd_cons (psd_set 5 sc_Counting__counts_from.nd (pd_callM 0 k_Counting__counts_from T.ck_Counting hr (Nat.le_refl _) (pad_cons (pd_add (pd_var 1) pd_int) (pad_cons (pd_var 4) pad_nil))))
    (pssd_cons (psd_if (ptd_notN (pd_var 5))
    (pssd_one (psd_ret (pd_add (pd_tup (pad_cons (pd_var 3) pad_nil)) (pd_var 5))))
    pssd_nil)
    (pssd_cons (psd_set 3 sc_Counting__counts_from.nd (pd_add (pd_var 3) pd_int))
    (pssd_one (psd_set 4 sc_Counting__counts_from.nd (pd_call k_added hr (Nat.le_trans (by decide) hj) tk (pad_cons (pd_var 2) (pad_cons (pd_ix (pd_at 0 T.ck_Counting T.na_Counting_rays_told) (pd_var 1)) (pad_cons (pd_neg (pd_var 3)) pad_nil))))))))))
    (pssd_cons (psd_keyAt 0 hr T.ck_Counting T.na_Counting_barred (pd_tup (pad_cons (pd_var 1) (pad_cons (pd_var 2) pad_nil))) pd_bl)
    (pssd_one (psd_ret pd_non))))))))
theorem okN_Counting__counts_from (T : Tx K mg cls) (D : DfM K cls 2 "counts_from" "Counting.counts_from" s_Counting__counts_from ["self", "k", "rest"]) (k_added : Kept P w K mg base cls "added" ["one", "other", "times"] false m_added 1) : ∀ n : Nat, KeptM P w K mg base cls (adr (cls 2)) "counts_from" ["self", "k", "rest"] (mN_Counting__counts_from n) (n + 1)
  | 0 => by unfold mN_Counting__counts_from; exact keptM_bad D
  | n + 1 => by unfold mN_Counting__counts_from; exact okS_Counting__counts_from (Nat.le_add_left _ n) T D k_added (okN_Counting__counts_from T D k_added n)
theorem ok_Counting__counts_from (T : Tx K mg cls) (D : DfM K cls 2 "counts_from" "Counting.counts_from" s_Counting__counts_from ["self", "k", "rest"]) (k_added : Kept P w K mg base cls "added" ["one", "other", "times"] false m_added 1) : KeptM P w K mg base cls (adr (cls 2)) "counts_from" ["self", "k", "rest"] m_Counting__counts_from 6 := okN_Counting__counts_from T D k_added 5
abbrev s_counts_told : Stmt := topS 21
abbrev N_counts_told : List Str := ["bundle", "vector", "rest"]
theorem sc_counts_told : FnScope N_counts_told ["bundle", "vector"] (defScope s_counts_told) := ⟨rfl, rfl, rfl, by decide +kernel, rfl, by decide +kernel, by decide +kernel⟩
noncomputable def b_counts_told : Sm := (seqS (setS 2 (callD 3 m_added (consD (varD 1) (consD (opD ixD (varD 0) (constD (.int 0))) (consD (unD negD (constD (.int 1))) nilD)))))
  (seqS (ifS (boolD (opD ltDD (unD minDD (varD 2)) (constD (.int 0))))
  (retS (constD .none))
  nextS)
  (retS (newM 2 3 2 "counts_from" m_Counting__init m_Counting__counts_from (consD (opD ixD (varD 0) (constD (.int 1))) nilD) (consD (constD (.int 0)) (consD (varD 2) nilD))))))
noncomputable def m_counts_told : Fn := fnD 1 false b_counts_told
theorem ok_counts_told (T : Tx K mg cls) (D : Df K mg "counts_told" s_counts_told ["bundle", "vector"]) (k_added : Kept P w K mg base cls "added" ["one", "other", "times"] false m_added 1) (k_Counting__init : KeptI P w K mg base cls (adr (cls 2)) ["self", "rays"] m_Counting__init 1) (k_Counting__counts_from : KeptM P w K mg base cls (adr (cls 2)) "counts_from" ["self", "k", "rest"] m_Counting__counts_from 6) : Kept P w K mg base cls "counts_told" ["bundle", "vector"] false m_counts_told 7 :=
  fn_ok (body := b_counts_told) D sc_counts_told fun f cdv A outer s H E hr => by
    have tk := takes_of (X := cxOf (L2.CX P w) P w K mg base N_counts_told "counts_told" (defScope s_counts_told) f cdv A outer s H E) (E := E) rfl rfl rfl rfl
    have hp := passes_of (X := cxOf (L2.CX P w) P w K mg base N_counts_told "counts_told" (defScope s_counts_told) f cdv A outer s H E) rfl
    exact (pssd_cons (psd_set 2 sc_counts_told.nd (pd_call k_added hr (by decide) tk (pad_cons (pd_var 1) (pad_cons (pd_ix (pd_var 0) pd_int) (pad_cons (pd_neg pd_int) pad_nil)))))
    (pssd_cons (psd_if (ptd_cmp (c_ltD hr) (pd_minDD hr rfl T.n_min (pd_var 2)) pd_int)
    (pssd_one (psd_ret pd_non))
    pssd_nil)
    (pssd_one (psd_ret (pd_newM k_Counting__init k_Counting__counts_from T.ck_Counting T.gc_Counting hr (by decide) (by decide) (pad_cons (pd_ix (pd_var 0) pd_int) pad_nil) (pad_cons pd_int (pad_cons (pd_var 2) pad_nil)))))))
abbrev s_places_of : Stmt := topS 13
abbrev N_places_of : List Str := ["bundle"]
theorem sc_places_of : FnScope N_places_of ["bundle"] (defScope s_places_of) := ⟨rfl, rfl, rfl, by decide +kernel, rfl, by decide +kernel, by decide +kernel⟩
noncomputable def b_places_of : Sm := (retS (unD lenD (opD ixD (varD 0) (constD (.int 0)))))
noncomputable def m_places_of : Fn := fnD 0 false b_places_of
theorem ok_places_of (T : Tx K mg cls) (D : Df K mg "places_of" s_places_of ["bundle"])  : Kept P w K mg base cls "places_of" ["bundle"] false m_places_of 1 :=
  fn_ok (body := b_places_of) D sc_places_of fun f cdv A outer s H E hr => by
    have tk := takes_of (X := cxOf (L2.CX P w) P w K mg base N_places_of "places_of" (defScope s_places_of) f cdv A outer s H E) (E := E) rfl rfl rfl rfl
    have hp := passes_of (X := cxOf (L2.CX P w) P w K mg base N_places_of "places_of" (defScope s_places_of) f cdv A outer s H E) rfl
    exact (pssd_one (psd_ret (pd_len T.n_len (pd_ix (pd_var 0) pd_int))))
abbrev s_counts_for : Stmt := topS 22
abbrev N_counts_for : List Str := ["bundle", "vector"]
theorem sc_counts_for : FnScope N_counts_for ["bundle", "vector"] (defScope s_counts_for) := ⟨rfl, rfl, rfl, by decide +kernel, rfl, by decide +kernel, by decide +kernel⟩
noncomputable def b_counts_for : Sm := (seqS (dropS (callD 1 m_check_bundle (consD (varD 0) nilD)))
  (seqS (dropS (callD 2 m_check_vector (consD (varD 1) (consD (callD 1 m_places_of (consD (varD 0) nilD)) nilD))))
  (retS (callD 2 m_counts_told (consD (varD 0) (consD (varD 1) nilD))))))
noncomputable def m_counts_for : Fn := fnD 0 false b_counts_for
theorem ok_counts_for (T : Tx K mg cls) (D : Df K mg "counts_for" s_counts_for ["bundle", "vector"]) (k_check_bundle : Kept P w K mg base cls "check_bundle" ["value"] false m_check_bundle 4) (k_check_vector : Kept P w K mg base cls "check_vector" ["value", "many"] false m_check_vector 3) (k_places_of : Kept P w K mg base cls "places_of" ["bundle"] false m_places_of 1) (k_counts_told : Kept P w K mg base cls "counts_told" ["bundle", "vector"] false m_counts_told 7) : Kept P w K mg base cls "counts_for" ["bundle", "vector"] false m_counts_for 8 :=
  fn_ok (body := b_counts_for) D sc_counts_for fun f cdv A outer s H E hr => by
    have tk := takes_of (X := cxOf (L2.CX P w) P w K mg base N_counts_for "counts_for" (defScope s_counts_for) f cdv A outer s H E) (E := E) rfl rfl rfl rfl
    have hp := passes_of (X := cxOf (L2.CX P w) P w K mg base N_counts_for "counts_for" (defScope s_counts_for) f cdv A outer s H E) rfl
    exact (pssd_cons (psd_expr (pd_call k_check_bundle hr (by decide) tk (pad_cons (pd_var 0) pad_nil)))
    (pssd_cons (psd_expr (pd_call k_check_vector hr (by decide) tk (pad_cons (pd_var 1) (pad_cons (pd_call k_places_of hr (by decide) tk (pad_cons (pd_var 0) pad_nil)) pad_nil))))
    (pssd_one (psd_ret (pd_call k_counts_told hr (by decide) tk (pad_cons (pd_var 0) (pad_cons (pd_var 1) pad_nil)))))))
abbrev s_law_refused : Stmt := topS 35
abbrev N_law_refused : List Str := ["bundle", "vector"]
theorem sc_law_refused : FnScope N_law_refused ["bundle", "vector"] (defScope s_law_refused) := ⟨rfl, rfl, rfl, by decide +kernel, rfl, by decide +kernel, by decide +kernel⟩
noncomputable def b_law_refused : Sm := (tryM [(1, (retS (constD (.str (PySem.Str.ofString "fan"))))), (0, (retS (constD (.str (PySem.Str.ofString "argument")))))] 2 (seqS (dropS (callD 2 m_counts_for (consD (varD 0) (consD (varD 1) nilD))))
  (retS (constD (.str (PySem.Str.ofString ""))))))
noncomputable def m_law_refused : Fn := fnD 0 false b_law_refused
theorem ok_law_refused (T : Tx K mg cls) (D : Df K mg "_law_refused" s_law_refused ["bundle", "vector"]) (k_counts_for : Kept P w K mg base cls "counts_for" ["bundle", "vector"] false m_counts_for 8) : Kept P w K mg base cls "_law_refused" ["bundle", "vector"] false m_law_refused 9 :=
  fn_ok (body := b_law_refused) D sc_law_refused fun f cdv A outer s H E hr => by
    have tk := takes_of (X := cxOf (L2.CX P w) P w K mg base N_law_refused "_law_refused" (defScope s_law_refused) f cdv A outer s H E) (E := E) rfl rfl rfl rfl
    have hp := passes_of (X := cxOf (L2.CX P w) P w K mg base N_law_refused "_law_refused" (defScope s_law_refused) f cdv A outer s H E) rfl
    exact (pssd_one (psd_tryM rfl rfl tk (fun W' pn xe tk' hp' => (pssd_cons (psd_expr (pd_call k_counts_for hr (by decide) tk' (pad_cons (pd_var 0) (pad_cons (pd_var 1) pad_nil))))
    (pssd_one (psd_ret pd_str)))) (hdsM_cons T.x_1 T.g_1 (fun _ _ _ => (pssd_one (psd_ret pd_str))) (hdsM_cons T.x_0 T.g_0 (fun _ _ _ => (pssd_one (psd_ret pd_str))) hdsM_nil))))
abbrev s_check_bundles : Stmt := topS 16
abbrev N_check_bundles : List Str := ["value", "one"]
theorem sc_check_bundles : FnScope N_check_bundles ["value"] (defScope s_check_bundles) := ⟨rfl, rfl, rfl, by decide +kernel, rfl, by decide +kernel, by decide +kernel⟩
noncomputable def b_check_bundles : Sm := (seqS (ifS (orT (notT (truthD (unD (isiD "list") (varD 0)))) (orT (boolD (opD (cmpD fun i j => decide (j < i)) (unD lenD (varD 0)) (constD (.int 400)))) (truthD (shareO (lcO (itemsD (varD 0)) [1] (nameT 1) (notT (truthD (callD 1 m_is_bundle (consD (varD 1) nilD)))) (varD 1))))))
  (raiseS 1)
  nextS)
  (ifS (truthD (shareO (lcO (itemsD (varD 0)) [1] (nameT 1) (boolD (opD neD (callD 1 m_places_of (consD (varD 1) nilD)) (callD 1 m_places_of (consD (opD ixD (varD 0) (constD (.int 0))) nilD)))) (varD 1))))
  (raiseS 1)
  nextS))
noncomputable def m_check_bundles : Fn := fnD 1 false b_check_bundles
theorem ok_check_bundles (T : Tx K mg cls) (D : Df K mg "check_bundles" s_check_bundles ["value"]) (k_is_bundle : Kept P w K mg base cls "is_bundle" ["value"] false m_is_bundle 3) (k_places_of : Kept P w K mg base cls "places_of" ["bundle"] false m_places_of 1) : Kept P w K mg base cls "check_bundles" ["value"] false m_check_bundles 4 :=
  fn_ok (body := b_check_bundles) D sc_check_bundles fun f cdv A outer s H E hr => by
    have tk := takes_of (X := cxOf (L2.CX P w) P w K mg base N_check_bundles "check_bundles" (defScope s_check_bundles) f cdv A outer s H E) (E := E) rfl rfl rfl rfl
    have hp := passes_of (X := cxOf (L2.CX P w) P w K mg base N_check_bundles "check_bundles" (defScope s_check_bundles) f cdv A outer s H E) rfl
    exact (pssd_cons (psd_if (PW.pt (pwd_or (ptd_not (ptd_val (pd_isi kit_list T.n_isinstance T.n_list PyProof.Rows.boot_list (pd_var 0)))) (pwd_or (ptd_cmp c_gt (pd_len T.n_len (pd_var 0)) (pd_globI T.c_MOST_BUNDLES)) (pwd_or1 (ptd_val (pd_share (po_lc (own := [("one", 1)]) rfl sc_check_bundles.nd (pid_seq (pd_var 0)) (blkOk_by (own := [("one", 1)]) (N := N_check_bundles) (sc := defScope s_check_bundles) (by decide +kernel)) (fun _ _ _ _ _ => (pgd_name 1 sc_check_bundles.nd)) (fun _ _ _ _ _ => (ptsd_one (ptd_not (ptd_val (pd_call k_is_bundle hr (by decide) takes0 (pad_cons (pd_var 1) pad_nil)))))) (fun _ _ _ _ _ => (pd_var 1)))))))))
    (pssd_one (psd_raise T.e_1 rfl tk))
    pssd_nil)
    (pssd_one (psd_if (ptd_val (pd_share (po_lc (own := [("one", 1)]) rfl sc_check_bundles.nd (pid_seq (pd_var 0)) (blkOk_by (own := [("one", 1)]) (N := N_check_bundles) (sc := defScope s_check_bundles) (by decide +kernel)) (fun _ _ _ _ _ => (pgd_name 1 sc_check_bundles.nd)) (fun _ _ _ _ _ => (ptsd_one (ptd_cmp (c_ne hr) (pd_call k_places_of hr (by decide) takes0 (pad_cons (pd_var 1) pad_nil)) (pd_call k_places_of hr (by decide) takes0 (pad_cons (pd_ix (pd_var 0) pd_int) pad_nil))))) (fun _ _ _ _ _ => (pd_var 1)))))
    (pssd_one (psd_raise T.e_1 rfl tk))
    pssd_nil)))
abbrev s_check_asked : Stmt := topS 18
abbrev N_check_asked : List Str := ["bundles", "vector", "many"]
theorem sc_check_asked : FnScope N_check_asked ["bundles", "vector"] (defScope s_check_asked) := ⟨rfl, rfl, rfl, by decide +kernel, rfl, by decide +kernel, by decide +kernel⟩
noncomputable def b_check_asked : Sm := (seqS (dropS (callD 1 m_check_bundles (consD (varD 0) nilD)))
  (seqS (setS 2 (ifD (truthD (varD 0)) (callD 1 m_places_of (consD (opD ixD (varD 0) (constD (.int 0))) nilD)) (ifD (truthD (unD (isiD "tuple") (varD 1))) (unD lenD (varD 1)) (constD (.int 0)))))
  (seqS (ifS (notT (boolD (chainD (cmpD fun i j => decide (i ≤ j)) (cmpD fun i j => decide (i ≤ j)) (constD (.int 1)) (varD 2) (constD (.int 3)))))
  (raiseS 0)
  nextS)
  (dropS (callD 2 m_check_vector (consD (varD 1) (consD (varD 2) nilD)))))))
noncomputable def m_check_asked : Fn := fnD 1 false b_check_asked
theorem ok_check_asked (T : Tx K mg cls) (D : Df K mg "check_asked" s_check_asked ["bundles", "vector"]) (k_check_bundles : Kept P w K mg base cls "check_bundles" ["value"] false m_check_bundles 4) (k_places_of : Kept P w K mg base cls "places_of" ["bundle"] false m_places_of 1) (k_check_vector : Kept P w K mg base cls "check_vector" ["value", "many"] false m_check_vector 3) : Kept P w K mg base cls "check_asked" ["bundles", "vector"] false m_check_asked 5 :=
  fn_ok (body := b_check_asked) D sc_check_asked fun f cdv A outer s H E hr => by
    have tk := takes_of (X := cxOf (L2.CX P w) P w K mg base N_check_asked "check_asked" (defScope s_check_asked) f cdv A outer s H E) (E := E) rfl rfl rfl rfl
    have hp := passes_of (X := cxOf (L2.CX P w) P w K mg base N_check_asked "check_asked" (defScope s_check_asked) f cdv A outer s H E) rfl
    exact (pssd_cons (psd_expr (pd_call k_check_bundles hr (by decide) tk (pad_cons (pd_var 0) pad_nil)))
    (pssd_cons (psd_set 2 sc_check_asked.nd (pd_if (ptd_val (pd_var 0)) (pd_call k_places_of hr (by decide) tk (pad_cons (pd_ix (pd_var 0) pd_int) pad_nil)) (pd_if (ptd_val (pd_isi kit_tuple T.n_isinstance T.n_tuple PyProof.Rows.boot_tuple (pd_var 1))) (pd_len T.n_len (pd_var 1)) pd_int)))
    (pssd_cons (psd_if (ptd_not (ptd_chain c_le c_le pd_int (pd_var 2) (pd_globI T.c_MOST_PLACES)))
    (pssd_one (psd_raise T.e_0 rfl tk))
    pssd_nil)
    (pssd_one (psd_expr (pd_call k_check_vector hr (by decide) tk (pad_cons (pd_var 1) (pad_cons (pd_var 2) pad_nil))))))))
abbrev s_way_told : Stmt := topS 23
abbrev N_way_told : List Str := ["bundles", "vector", "k", "counts"]
theorem sc_way_told : FnScope N_way_told ["bundles", "vector"] (defScope s_way_told) := ⟨rfl, rfl, rfl, by decide +kernel, rfl, by decide +kernel, by decide +kernel⟩
noncomputable def b_way_told : Sm := (seqS (forS (rangeD (unD lenD (varD 0))) (nameT 2)
  (seqS (setS 3 (callD 2 m_counts_told (consD (opD ixD (varD 0) (varD 2)) (consD (varD 1) nilD))))
  (ifS (boolD (unD notNoneD (varD 3)))
  (retS (tupD (consD (varD 2) (consD (varD 3) nilD))))
  nextS)))
  (retS (constD .none)))
noncomputable def m_way_told : Fn := fnD 2 false b_way_told
theorem ok_way_told (T : Tx K mg cls) (D : Df K mg "way_told" s_way_told ["bundles", "vector"]) (k_counts_told : Kept P w K mg base cls "counts_told" ["bundle", "vector"] false m_counts_told 7) : Kept P w K mg base cls "way_told" ["bundles", "vector"] false m_way_told 8 :=
  fn_ok (body := b_way_told) D sc_way_told fun f cdv A outer s H E hr => by
    have tk := takes_of (X := cxOf (L2.CX P w) P w K mg base N_way_told "way_told" (defScope s_way_told) f cdv A outer s H E) (E := E) rfl rfl rfl rfl
    have hp := passes_of (X := cxOf (L2.CX P w) P w K mg base N_way_told "way_told" (defScope s_way_told) f cdv A outer s H E) rfl
    exact (pssd_cons (psd_for hp rfl (pid_range T.n_range (pd_len T.n_len (pd_var 0))) (pgd_name 2 sc_way_told.nd)
    (pssd_cons (psd_set 3 sc_way_told.nd (pd_call k_counts_told hr (by decide) tk (pad_cons (pd_ix (pd_var 0) (pd_var 2)) (pad_cons (pd_var 1) pad_nil))))
    (pssd_one (psd_if (ptd_notN (pd_var 3))
    (pssd_one (psd_ret (pd_tup (pad_cons (pd_var 2) (pad_cons (pd_var 3) pad_nil)))))
    pssd_nil))))
    (pssd_one (psd_ret pd_non)))
abbrev s_has_vector : Stmt := topS 24
abbrev N_has_vector : List Str := ["bundles", "vector"]
theorem sc_has_vector : FnScope N_has_vector ["bundles", "vector"] (defScope s_has_vector) := ⟨rfl, rfl, rfl, by decide +kernel, rfl, by decide +kernel, by decide +kernel⟩
noncomputable def b_has_vector : Sm := (seqS (dropS (callD 2 m_check_asked (consD (varD 0) (consD (varD 1) nilD))))
  (retS (unD notNoneD (callD 2 m_way_told (consD (varD 0) (consD (varD 1) nilD))))))
noncomputable def m_has_vector : Fn := fnD 0 false b_has_vector
theorem ok_has_vector (T : Tx K mg cls) (D : Df K mg "has_vector" s_has_vector ["bundles", "vector"]) (k_check_asked : Kept P w K mg base cls "check_asked" ["bundles", "vector"] false m_check_asked 5) (k_way_told : Kept P w K mg base cls "way_told" ["bundles", "vector"] false m_way_told 8) : Kept P w K mg base cls "has_vector" ["bundles", "vector"] false m_has_vector 9 :=
  fn_ok (body := b_has_vector) D sc_has_vector fun f cdv A outer s H E hr => by
    have tk := takes_of (X := cxOf (L2.CX P w) P w K mg base N_has_vector "has_vector" (defScope s_has_vector) f cdv A outer s H E) (E := E) rfl rfl rfl rfl
    have hp := passes_of (X := cxOf (L2.CX P w) P w K mg base N_has_vector "has_vector" (defScope s_has_vector) f cdv A outer s H E) rfl
    exact (pssd_cons (psd_expr (pd_call k_check_asked hr (by decide) tk (pad_cons (pd_var 0) (pad_cons (pd_var 1) pad_nil))))
    (pssd_one (psd_ret (pd_notN (pd_call k_way_told hr (by decide) tk (pad_cons (pd_var 0) (pad_cons (pd_var 1) pad_nil)))))))
abbrev s_way_in : Stmt := topS 25
abbrev N_way_in : List Str := ["bundles", "vector"]
theorem sc_way_in : FnScope N_way_in ["bundles", "vector"] (defScope s_way_in) := ⟨rfl, rfl, rfl, by decide +kernel, rfl, by decide +kernel, by decide +kernel⟩
noncomputable def b_way_in : Sm := (seqS (dropS (callD 2 m_check_asked (consD (varD 0) (consD (varD 1) nilD))))
  (retS (callD 2 m_way_told (consD (varD 0) (consD (varD 1) nilD)))))
noncomputable def m_way_in : Fn := fnD 0 false b_way_in
theorem ok_way_in (T : Tx K mg cls) (D : Df K mg "way_in" s_way_in ["bundles", "vector"]) (k_check_asked : Kept P w K mg base cls "check_asked" ["bundles", "vector"] false m_check_asked 5) (k_way_told : Kept P w K mg base cls "way_told" ["bundles", "vector"] false m_way_told 8) : Kept P w K mg base cls "way_in" ["bundles", "vector"] false m_way_in 9 :=
  fn_ok (body := b_way_in) D sc_way_in fun f cdv A outer s H E hr => by
    have tk := takes_of (X := cxOf (L2.CX P w) P w K mg base N_way_in "way_in" (defScope s_way_in) f cdv A outer s H E) (E := E) rfl rfl rfl rfl
    have hp := passes_of (X := cxOf (L2.CX P w) P w K mg base N_way_in "way_in" (defScope s_way_in) f cdv A outer s H E) rfl
    exact (pssd_cons (psd_expr (pd_call k_check_asked hr (by decide) tk (pad_cons (pd_var 0) (pad_cons (pd_var 1) pad_nil))))
    (pssd_one (psd_ret (pd_call k_way_told hr (by decide) tk (pad_cons (pd_var 0) (pad_cons (pd_var 1) pad_nil))))))
abbrev s_is_way_in : Stmt := topS 26
abbrev N_is_way_in : List Str := ["bundles", "vector", "value", "made", "k", "base", "rays"]
theorem sc_is_way_in : FnScope N_is_way_in ["bundles", "vector", "value"] (defScope s_is_way_in) := ⟨rfl, rfl, rfl, by decide +kernel, rfl, by decide +kernel, by decide +kernel⟩
noncomputable def b_is_way_in : Sm := (seqS (dropS (callD 2 m_check_asked (consD (varD 0) (consD (varD 1) nilD))))
  (seqS (ifS (orT (notT (truthD (unD (isiD "tuple") (varD 2)))) (orT (boolD (opD neD (unD lenD (varD 2)) (constD (.int 2)))) (notT (truthD (callD 3 m_is_between (consD (opD ixD (varD 2) (constD (.int 0))) (consD (constD (.int 0)) (consD (opD subD (unD lenD (varD 0)) (constD (.int 1))) nilD))))))))
  (retS (constD (.bool false)))
  nextS)
  (seqS (asgS (opD ixD (varD 0) (opD ixD (varD 2) (constD (.int 0)))) (tupT (consT (nameT 5) (consT (nameT 6) nilT))))
  (seqS (ifS (notT (truthD (callD 4 m_is_row (consD (opD ixD (varD 2) (constD (.int 1))) (consD (unD lenD (varD 6)) (consD (constD (.int 0)) (consD (constD (.int 40)) nilD)))))))
  (retS (constD (.bool false)))
  nextS)
  (seqS (setS 3 (varD 5))
  (seqS (forS (rangeD (unD lenD (varD 6))) (nameT 4)
  (setS 3 (callD 3 m_added (consD (varD 3) (consD (opD ixD (varD 6) (varD 4)) (consD (opD ixD (opD ixD (varD 2) (constD (.int 1))) (varD 4)) nilD))))))
  (retS (opD eqD (varD 3) (varD 1)))))))))
noncomputable def m_is_way_in : Fn := fnD 4 false b_is_way_in
theorem ok_is_way_in (T : Tx K mg cls) (D : Df K mg "is_way_in" s_is_way_in ["bundles", "vector", "value"]) (k_check_asked : Kept P w K mg base cls "check_asked" ["bundles", "vector"] false m_check_asked 5) (k_is_between : Kept P w K mg base cls "is_between" ["value", "low", "high"] false m_is_between 1) (k_is_row : Kept P w K mg base cls "is_row" ["value", "many", "low", "high"] false m_is_row 2) (k_added : Kept P w K mg base cls "added" ["one", "other", "times"] false m_added 1) : Kept P w K mg base cls "is_way_in" ["bundles", "vector", "value"] false m_is_way_in 6 :=
  fn_ok (body := b_is_way_in) D sc_is_way_in fun f cdv A outer s H E hr => by
    have tk := takes_of (X := cxOf (L2.CX P w) P w K mg base N_is_way_in "is_way_in" (defScope s_is_way_in) f cdv A outer s H E) (E := E) rfl rfl rfl rfl
    have hp := passes_of (X := cxOf (L2.CX P w) P w K mg base N_is_way_in "is_way_in" (defScope s_is_way_in) f cdv A outer s H E) rfl
    exact (pssd_cons (psd_expr (pd_call k_check_asked hr (by decide) tk (pad_cons (pd_var 0) (pad_cons (pd_var 1) pad_nil))))
    (pssd_cons (psd_if (PW.pt (pwd_or (ptd_not (ptd_val (pd_isi kit_tuple T.n_isinstance T.n_tuple PyProof.Rows.boot_tuple (pd_var 2)))) (pwd_or (ptd_cmp (c_ne hr) (pd_len T.n_len (pd_var 2)) pd_int) (pwd_or1 (ptd_not (ptd_val (pd_call k_is_between hr (by decide) tk (pad_cons (pd_ix (pd_var 2) pd_int) (pad_cons pd_int (pad_cons (pd_sub (pd_len T.n_len (pd_var 0)) pd_int) pad_nil))))))))))
    (pssd_one (psd_ret pd_bl))
    pssd_nil)
    (pssd_cons (psd_asg (pd_ix (pd_var 0) (pd_ix (pd_var 2) pd_int)) (pgd_tup rfl (pgsd_cons (pgd_name 5 sc_is_way_in.nd) (pgsd_cons (pgd_name 6 sc_is_way_in.nd) pgsd_nil)) len2))
    (pssd_cons (psd_if (ptd_not (ptd_val (pd_call k_is_row hr (by decide) tk (pad_cons (pd_ix (pd_var 2) pd_int) (pad_cons (pd_len T.n_len (pd_var 6)) (pad_cons pd_int (pad_cons (pd_globI T.c_MOST_VECTOR) pad_nil)))))))
    (pssd_one (psd_ret pd_bl))
    pssd_nil)
    (pssd_cons (psd_set 3 sc_is_way_in.nd (pd_var 5))
    (pssd_cons (psd_for hp rfl (pid_range T.n_range (pd_len T.n_len (pd_var 6))) (pgd_name 4 sc_is_way_in.nd)
    (pssd_one (psd_set 3 sc_is_way_in.nd (pd_call k_added hr (by decide) tk (pad_cons (pd_var 3) (pad_cons (pd_ix (pd_var 6) (pd_var 4)) (pad_cons (pd_ix (pd_ix (pd_var 2) pd_int) (pd_var 4)) pad_nil)))))))
    (pssd_one (psd_ret (pd_cmp (c_eq hr) (pd_var 3) (pd_var 1))))))))))
abbrev s_law_right : Stmt := topS 36
abbrev N_law_right : List Str := ["bundles", "vector", "value", "counts", "base", "rays", "k", "c", "j"]
theorem sc_law_right : FnScope N_law_right ["bundles", "vector", "value"] (defScope s_law_right) := ⟨rfl, rfl, rfl, by decide +kernel, rfl, by decide +kernel, by decide +kernel⟩
noncomputable def b_law_right : Sm := (seqS (ifS (orT (notT (truthD (unD (isiD "tuple") (varD 2)))) (orT (boolD (opD neD (unD lenD (varD 2)) (constD (.int 2)))) (orT (truthD (unD (isiD "bool") (opD ixD (varD 2) (constD (.int 0))))) (orT (notT (truthD (unD (isiD "int") (opD ixD (varD 2) (constD (.int 0)))))) (notT (boolD (chainD (cmpD fun i j => decide (i ≤ j)) (cmpD fun i j => decide (i < j)) (constD (.int 0)) (opD ixD (varD 2) (constD (.int 0))) (unD lenD (varD 0)))))))))
  (retS (constD (.bool false)))
  nextS)
  (seqS (asgS (opD ixD (varD 0) (opD ixD (varD 2) (constD (.int 0)))) (tupT (consT (nameT 4) (consT (nameT 5) nilT))))
  (seqS (setS 3 (opD ixD (varD 2) (constD (.int 1))))
  (seqS (ifS (orT (notT (truthD (unD (isiD "tuple") (varD 3)))) (orT (boolD (opD neD (unD lenD (varD 3)) (unD lenD (varD 5)))) (boolD (opD (cmpD fun i j => decide (j < i)) (unD lenD (shareO (lcO (itemsD (varD 3)) [7] (nameT 7) (orT (truthD (unD (isiD "bool") (varD 7))) (orT (notT (truthD (unD (isiD "int") (varD 7)))) (boolD (opD (cmpD fun i j => decide (i < j)) (varD 7) (constD (.int 0)))))) (varD 7)))) (constD (.int 0))))))
  (retS (constD (.bool false)))
  nextS)
  (retS (opD eqD (varD 1) (unD tupleD (shareO (lcO (rangeD (unD lenD (varD 4))) [6] (nameT 6) yesT (opD addD (opD ixD (varD 4) (varD 6)) (unD sumA (shareO (lcO (rangeD (unD lenD (varD 5))) [8] (nameT 8) yesT (opD mulD (opD ixD (varD 3) (varD 8)) (opD ixD (opD ixD (varD 5) (varD 8)) (varD 6))))))))))))))))
noncomputable def m_law_right : Fn := fnD 6 false b_law_right
theorem ok_law_right (T : Tx K mg cls) (D : Df K mg "_law_right" s_law_right ["bundles", "vector", "value"])  : Kept P w K mg base cls "_law_right" ["bundles", "vector", "value"] false m_law_right 1 :=
  fn_ok (body := b_law_right) D sc_law_right fun f cdv A outer s H E hr => by
    have tk := takes_of (X := cxOf (L2.CX P w) P w K mg base N_law_right "_law_right" (defScope s_law_right) f cdv A outer s H E) (E := E) rfl rfl rfl rfl
    have hp := passes_of (X := cxOf (L2.CX P w) P w K mg base N_law_right "_law_right" (defScope s_law_right) f cdv A outer s H E) rfl
    exact (pssd_cons (psd_if (PW.pt (pwd_or (ptd_not (ptd_val (pd_isi kit_tuple T.n_isinstance T.n_tuple PyProof.Rows.boot_tuple (pd_var 2)))) (pwd_or (ptd_cmp (c_ne hr) (pd_len T.n_len (pd_var 2)) pd_int) (pwd_or (ptd_val (pd_isi kit_bool T.n_isinstance T.n_bool PyProof.Rows.boot_bool (pd_ix (pd_var 2) pd_int))) (pwd_or (ptd_not (ptd_val (pd_isi kit_int T.n_isinstance T.n_int PyProof.Rows.boot_int (pd_ix (pd_var 2) pd_int)))) (pwd_or1 (ptd_not (ptd_chain c_le c_lt pd_int (pd_ix (pd_var 2) pd_int) (pd_len T.n_len (pd_var 0))))))))))
    (pssd_one (psd_ret pd_bl))
    pssd_nil)
    (pssd_cons (psd_asg (pd_ix (pd_var 0) (pd_ix (pd_var 2) pd_int)) (pgd_tup rfl (pgsd_cons (pgd_name 4 sc_law_right.nd) (pgsd_cons (pgd_name 5 sc_law_right.nd) pgsd_nil)) len2))
    (pssd_cons (psd_set 3 sc_law_right.nd (pd_ix (pd_var 2) pd_int))
    (pssd_cons (psd_if (PW.pt (pwd_or (ptd_not (ptd_val (pd_isi kit_tuple T.n_isinstance T.n_tuple PyProof.Rows.boot_tuple (pd_var 3)))) (pwd_or (ptd_cmp (c_ne hr) (pd_len T.n_len (pd_var 3)) (pd_len T.n_len (pd_var 5))) (pwd_or1 (ptd_cmp c_gt (pd_len T.n_len (pd_share (po_lc (own := [("c", 7)]) rfl sc_law_right.nd (pid_seq (pd_var 3)) (blkOk_by (own := [("c", 7)]) (N := N_law_right) (sc := defScope s_law_right) (by decide +kernel)) (fun _ _ _ _ _ => (pgd_name 7 sc_law_right.nd)) (fun _ _ _ _ _ => (ptsd_one (PW.pt (pwd_or (ptd_val (pd_isi kit_bool T.n_isinstance T.n_bool PyProof.Rows.boot_bool (pd_var 7))) (pwd_or (ptd_not (ptd_val (pd_isi kit_int T.n_isinstance T.n_int PyProof.Rows.boot_int (pd_var 7)))) (pwd_or1 (ptd_cmp c_lt (pd_var 7) pd_int))))))) (fun _ _ _ _ _ => (pd_var 7))))) pd_int)))))
    (pssd_one (psd_ret pd_bl))
    pssd_nil)
    (pssd_one (psd_ret (pd_cmp (c_eq hr) (pd_var 1) (pd_tuple T.n_tuple (pd_share (po_lc (own := [("k", 6)]) rfl sc_law_right.nd (pid_range T.n_range (pd_len T.n_len (pd_var 4))) (blkOk_by (own := [("k", 6)]) (N := N_law_right) (sc := defScope s_law_right) (by decide +kernel)) (fun _ _ _ _ _ => (pgd_name 6 sc_law_right.nd)) (fun _ _ _ _ _ => ptsd_nil) (fun _ _ _ _ _ => (pd_add (pd_ix (pd_var 4) (pd_var 6)) (pd_sumA rfl T.n_sum (pd_share (po_lc (own := [("j", 8)]) rfl sc_law_right.nd (pid_range T.n_range (pd_len T.n_len (pd_var 5))) (blkOk_by (own := [("j", 8)]) (N := N_law_right) (sc := _) (by kernel_rfl)) (fun _ _ _ _ _ => (pgd_name 8 sc_law_right.nd)) (fun _ _ _ _ _ => ptsd_nil) (fun _ _ _ _ _ => (pd_mul (pd_ix (pd_var 3) (pd_var 8)) (pd_ix (pd_ix (pd_var 5) (pd_var 8)) (pd_var 6)))))))))))))))))))
abbrev s_law : Stmt := topS 37
abbrev N_law : List Str := ["script", "draws", "d", "bundles", "turn", "wrongs", "wrong", "vector", "told", "k", "good", "tried", "value", "ray", "j", "base", "rays", "times"]
theorem sc_law : FnScope N_law ["script"] (defScope s_law) := ⟨rfl, rfl, rfl, by decide +kernel, rfl, by decide +kernel, by decide +kernel⟩
noncomputable def b_law : Sm := (seqS (setS 2 (opD addD (constD (.int 1)) (opD modD (callG 1 1 m_law_draw nilD) (constD (.int 3)))))
  (seqS (setOS 3 (lcO (rangeD (opD addD (constD (.int 1)) (opD modD (callG 1 1 m_law_draw nilD) (constD (.int 3))))) [9] (nameT 9) yesT (callG 4 1 m_law_bundle (consD (varD 2) (consD (constD (.int 3)) (consD (constD (.int 5)) nilD)))))) (shutS 3 (seqS (forS (rangeD (constD (.int 6))) (nameT 4)
  (seqS (setS 7 (unD tupleD (shareO (lcO (rangeD (varD 2)) [9] (nameT 9) yesT (opD modD (callG 1 1 m_law_draw nilD) (opD ixD (shareO (lstO (consD (constD (.int 9)) (consD (constD (.int 41)) nilD)))) (ifD (boolD (opD (cmpD fun i j => decide (i < j)) (varD 2) (constD (.int 3)))) (opD modD (varD 4) (constD (.int 2))) (constD (.int 0)))))))))
  (seqS (ifS (boolD (opD (cmpD fun i j => decide (j < i)) (varD 4) (constD (.int 2))))
  (seqS (asgS (opD ixD (varD 3) (opD modD (callG 1 1 m_law_draw nilD) (unD lenD (varD 3)))) (tupT (consT (nameT 15) (consT (nameT 16) nilT))))
  (seqS (setS 7 (varD 15))
  (forS (itemsD (varD 16)) (nameT 13)
  (seqS (setS 17 (opD modD (callG 1 1 m_law_draw nilD) (constD (.int 3))))
  (setS 7 (unD tupleD (shareO (lcO (rangeD (varD 2)) [9] (nameT 9) yesT (opD addD (opD ixD (varD 7) (varD 9)) (opD mulD (varD 17) (opD ixD (varD 13) (varD 9))))))))))))
  nextS)
  (seqS (setS 8 (shareO (lcO (itemsD (varD 3)) [15, 16] (tupT (consT (nameT 15) (consT (nameT 16) nilT))) yesT (callD 3 m_law_counts (consD (varD 15) (consD (varD 16) (consD (varD 7) nilD)))))))
  (seqS (forS (rangeD (unD lenD (varD 3))) (nameT 9)
  (ifS (notT (truthD (callD 2 m_law_equal (consD (callD 2 m_counts_for (consD (opD ixD (varD 3) (varD 9)) (consD (varD 7) nilD))) (consD (opD ixD (varD 8) (varD 9)) nilD)))))
  (retS (constD (.bool false)))
  nextS))
  (seqS (setOS 10 (lcO (rangeD (unD lenD (varD 3))) [9] (nameT 9) (boolD (unD notNoneD (opD ixD (varD 8) (varD 9)))) (varD 9))) (shutS 10 (seqS (ifS (orT (notT (truthD (callD 2 m_law_equal (consD (callD 2 m_has_vector (consD (varD 3) (consD (varD 7) nilD))) (consD (opD (cmpD fun i j => decide (j < i)) (unD lenD (varD 10)) (constD (.int 0))) nilD))))) (notT (truthD (callD 2 m_law_equal (consD (callD 2 m_way_in (consD (varD 3) (consD (varD 7) nilD))) (consD (ifD (boolD (opD (cmpD fun i j => decide (j < i)) (unD lenD (varD 10)) (constD (.int 0)))) (tupD (consD (opD ixD (varD 10) (constD (.int 0))) (consD (opD ixD (varD 8) (opD ixD (varD 10) (constD (.int 0)))) nilD))) (constD .none)) nilD))))))
  (retS (constD (.bool false)))
  nextS)
  (seqS (setOS 11 (lstO (consD (constD .none) (consD (tupD (consD (constD (.int 0)) nilD)) (consD (tupD (consD (unD lenD (varD 3)) (consD (tupD nilD) nilD))) (consD (tupD (consD (constD (.int 0)) (consD (constD .none) nilD))) (consD (tupD (consD (unD negD (constD (.int 1))) (consD (tupD nilD) nilD))) (consD (tupD (consD (constD (.bool true)) (consD (tupD nilD) nilD))) (consD (tupD (consD (constD (.int 0)) (consD (opD mulD (shareO (lstO (consD (constD (.int 0)) nilD))) (unD lenD (opD ixD (opD ixD (varD 3) (constD (.int 0))) (constD (.int 1))))) nilD))) (consD (tupD (consD (constD (.int 0)) (consD (opD mulD (tupD (consD (constD (.int 0)) nilD)) (opD addD (unD lenD (opD ixD (opD ixD (varD 3) (constD (.int 0))) (constD (.int 1)))) (constD (.int 1)))) nilD))) nilD))))))))))
  (seqS (forS (itemsD (varD 10)) (nameT 9)
  (seqS (appS 11 (tupD (consD (varD 9) (consD (opD ixD (varD 8) (varD 9)) nilD))))
  (seqS (appS 11 (shareO (lstO (consD (varD 9) (consD (opD ixD (varD 8) (varD 9)) nilD)))))
  (forS (rangeD (unD lenD (opD ixD (varD 8) (varD 9)))) (nameT 14)
  (seqS (appS 11 (tupD (consD (varD 9) (consD (opD addD (opD addD (slD (opD ixD (varD 8) (varD 9)) noPart (somePart (varD 14))) (tupD (consD (opD addD (opD ixD (opD ixD (varD 8) (varD 9)) (varD 14)) (constD (.int 1))) nilD))) (slD (opD ixD (varD 8) (varD 9)) (somePart (opD addD (varD 14) (constD (.int 1)))) noPart)) nilD))))
  (appS 11 (tupD (consD (varD 9) (consD (opD addD (opD addD (slD (opD ixD (varD 8) (varD 9)) noPart (somePart (varD 14))) (tupD (consD (opD subD (opD ixD (opD ixD (varD 8) (varD 9)) (varD 14)) (constD (.int 1))) nilD))) (slD (opD ixD (varD 8) (varD 9)) (somePart (opD addD (varD 14) (constD (.int 1)))) noPart)) nilD)))))))))
  (shutS 11 (forS (itemsD (varD 11)) (nameT 12)
  (ifS (notT (truthD (callD 2 m_law_equal (consD (callD 3 m_is_way_in (consD (varD 3) (consD (varD 7) (consD (varD 12) nilD)))) (consD (callD 3 m_law_right (consD (varD 3) (consD (varD 7) (consD (varD 12) nilD)))) nilD)))))
  (retS (constD (.bool false)))
  nextS)))))))))))))
  (seqS (setS 5 (shareO (lstO (consD (constD .none) (consD (tupD nilD) (consD (tupD (consD (tupD (consD (constD (.int 0)) nilD)) (consD (shareO (lstO (consD (tupD (consD (constD (.int 0)) nilD)) nilD))) nilD))) (consD (tupD (consD (tupD (consD (unD negD (constD (.int 1))) nilD)) (consD (shareO (lstO nilD)) nilD))) (consD (tupD (consD (tupD (consD (constD (.int 0)) nilD)) (consD (shareO (lstO (consD (tupD (consD (constD (.int 1)) nilD)) (consD (tupD (consD (constD (.int 1)) nilD)) nilD)))) nilD))) (consD (tupD (consD (tupD (consD (constD (.int 0)) nilD)) (consD (shareO (lstO (consD (tupD (consD (constD (.int 2)) nilD)) (consD (tupD (consD (constD (.int 1)) nilD)) nilD)))) nilD))) (consD (tupD (consD (tupD (consD (constD (.int 0)) nilD)) (consD (tupD (consD (tupD (consD (constD (.int 1)) nilD)) nilD)) nilD))) (consD (tupD (consD (opD mulD (tupD (consD (constD (.int 0)) nilD)) (constD (.int 4))) (consD (shareO (lstO nilD)) nilD))) nilD)))))))))))
  (seqS (forS (itemsD (opD addD (varD 5) (shareO (lstO (consD (tupD (consD (tupD (consD (constD (.int 0)) nilD)) (consD (shareO (lstO (consD (tupD (consD (constD (.int 1)) (consD (constD (.int 0)) nilD))) nilD))) nilD))) (consD (tupD (consD (tupD (consD (opD addD (opD powD (constD (.int 10)) (constD (.int 6))) (constD (.int 1))) nilD)) (consD (shareO (lstO nilD)) nilD))) (consD (tupD (consD (tupD (consD (constD (.int 0)) nilD)) (consD (shareO (lstO (consD (tupD (consD (opD addD (opD powD (constD (.int 10)) (constD (.int 4))) (constD (.int 1))) nilD)) nilD))) nilD))) (consD (tupD (consD (tupD (consD (constD (.bool true)) nilD)) (consD (shareO (lstO nilD)) nilD))) nilD)))))))) (nameT 6)
  (ifS (boolD (opD neD (callD 2 m_law_refused (consD (varD 6) (consD (tupD (consD (constD (.int 0)) nilD)) nilD))) (constD (.str (PySem.Str.ofString "fan")))))
  (retS (constD (.bool false)))
  nextS))
  (seqS (forS (itemsD (tupD (consD (constD .none) (consD (opD mulD (tupD (consD (constD (.int 0)) nilD)) (opD addD (varD 2) (constD (.int 1)))) (consD (opD mulD (tupD (consD (constD (.int 41)) nilD)) (varD 2)) (consD (opD mulD (tupD (consD (unD negD (constD (.int 1))) nilD)) (varD 2)) (consD (opD mulD (shareO (lstO (consD (constD (.int 0)) nilD))) (varD 2)) (consD (opD mulD (tupD (consD (constD (.bool true)) nilD)) (varD 2)) nilD)))))))) (nameT 6)
  (ifS (boolD (opD neD (callD 2 m_law_refused (consD (opD ixD (varD 3) (constD (.int 0))) (consD (varD 6) nilD))) (constD (.str (PySem.Str.ofString "argument")))))
  (retS (constD (.bool false)))
  nextS))
  (retS (andV (callD 2 m_law_equal (consD (callD 2 m_has_vector (consD (shareO (lstO nilD)) (consD (tupD (consD (constD (.int 3)) (consD (constD (.int 4)) nilD))) nilD))) (consD (constD (.bool false)) nilD))) (callD 2 m_law_equal (consD (callD 2 m_way_in (consD (shareO (lstO nilD)) (consD (tupD (consD (constD (.int 0)) nilD)) nilD))) (consD (constD .none) nilD))))))))))))
theorem ok_law {f : Addr} {fd : FuncData} (T : Tx K mg cls) (F : Fun K "law" "law" s_law f fd) (kn : ∃ (f : Addr) (fd : FuncData), mg "_law_numbers" = some (.ref f) ∧ PySem.W.keepIn K (.ref f) = true ∧ L2.Binds K fd ["script"] [] ∧ FnOk P w K mg base (L2.CX P w) 2 f fd ["script"] (spNum K))
    (k_law_draw : Kept P w K mg base cls "_law_draw" ["draws"] true m_law_draw 2)
    (k_law_bundle : Kept P w K mg base cls "_law_bundle" ["draws", "d", "rays", "top"] true m_law_bundle 3)
    (k_law_counts : Kept P w K mg base cls "_law_counts" ["base", "rays", "vector"] false m_law_counts 5)
    (k_law_equal : Kept P w K mg base cls "_law_equal" ["actual", "due"] false m_law_equal 40)
    (k_counts_for : Kept P w K mg base cls "counts_for" ["bundle", "vector"] false m_counts_for 8)
    (k_has_vector : Kept P w K mg base cls "has_vector" ["bundles", "vector"] false m_has_vector 9)
    (k_way_in : Kept P w K mg base cls "way_in" ["bundles", "vector"] false m_way_in 9)
    (k_is_way_in : Kept P w K mg base cls "is_way_in" ["bundles", "vector", "value"] false m_is_way_in 6)
    (k_law_right : Kept P w K mg base cls "_law_right" ["bundles", "vector", "value"] false m_law_right 1)
    (k_law_refused : Kept P w K mg base cls "_law_refused" ["bundle", "vector"] false m_law_refused 9)
    (hm : ∀ ms : List Int, Small ms → ∃ g', b_law (.no :: .dr :: List.replicate 16 .no) (some (.dr ms 0)) = .rt (.bool true) g') : FnOk P w K mg base (L2.CX P w) 41 f fd ["script"] (spLaw K) :=
  law_ok (body := b_law) F sc_law (fun cdv A outer s H E hr => by
    have tk := takes_of (X := cxOf (L2.CX P w) P w K mg base N_law "law" (defScope s_law) f cdv A outer s H E) (E := E) rfl rfl rfl rfl
    have hp := passes_of (X := cxOf (L2.CX P w) P w K mg base N_law "law" (defScope s_law) f cdv A outer s H E) rfl
    obtain ⟨fn, fdn, hmn, hkn, hbn, Fn⟩ := kn
    exact (pss_cons (ps_set (i := 1) sc_law.nd rfl (by first | exact Or.inl rfl | exact Or.inr rfl) (pe_lst (pa_cons (pe_callS Fn (hr.mono (by decide)) (by rfl) hmn hkn hbn (fun σ => passAt tk σ) (pa_cons (pv 0) pa_nil)) (pa_cons pe_int pa_nil))))
      (pssd_cons (psd_set 2 sc_law.nd (pd_add pd_int (pd_mod (pd_callG 1 k_law_draw hr (by decide) tk pad_nil) pd_int)))
    (pssd_setLc 3 (psd_setLcO 3 (own := [("k", 9)]) rfl sc_law.nd (sw_true rfl rfl rfl (by decide +kernel)) (pid_range T.n_range (pd_add pd_int (pd_mod (pd_callG 1 k_law_draw hr (by decide) tk pad_nil) pd_int))) (blkOk_by (own := [("k", 9)]) (N := N_law) (sc := defScope s_law) (by decide +kernel)) (fun _ _ _ _ _ => (pgd_name 9 sc_law.nd)) (fun _ _ _ _ _ => ptsd_nil) (fun _ _ _ _ _ => (pd_callG 1 k_law_bundle hr (by decide) takes0 (pad_cons (pd_var 2) (pad_cons pd_int (pad_cons pd_int pad_nil)))))) (pssd_cons (psd_for hp rfl (pid_range T.n_range pd_int) (pgd_name 4 sc_law.nd)
    (pssd_cons (psd_set 7 sc_law.nd (pd_tuple T.n_tuple (pd_share (po_lc (own := [("k", 9)]) rfl sc_law.nd (pid_range T.n_range (pd_var 2)) (blkOk_by (own := [("k", 9)]) (N := N_law) (sc := defScope s_law) (by decide +kernel)) (fun _ _ _ _ _ => (pgd_name 9 sc_law.nd)) (fun _ _ _ _ _ => ptsd_nil) (fun _ _ _ _ _ => (pd_mod (pd_callG 1 k_law_draw hr (by decide) takes0 pad_nil) (pd_ix (pd_share (po_lst (pad_cons pd_int (pad_cons pd_int pad_nil)))) (pd_if (ptd_cmp c_lt (pd_var 2) pd_int) (pd_mod (pd_var 4) pd_int) pd_int))))))))
    (pssd_cons (psd_if (ptd_cmp c_gt (pd_var 4) pd_int)
    (pssd_cons (psd_asg (pd_ix (pd_var 3) (pd_mod (pd_callG 1 k_law_draw hr (by decide) tk pad_nil) (pd_len T.n_len (pd_var 3)))) (pgd_tup rfl (pgsd_cons (pgd_name 15 sc_law.nd) (pgsd_cons (pgd_name 16 sc_law.nd) pgsd_nil)) len2))
    (pssd_cons (psd_set 7 sc_law.nd (pd_var 15))
    (pssd_one (psd_for hp rfl (pid_seq (pd_var 16)) (pgd_name 13 sc_law.nd)
    (pssd_cons (psd_set 17 sc_law.nd (pd_mod (pd_callG 1 k_law_draw hr (by decide) tk pad_nil) pd_int))
    (pssd_one (psd_set 7 sc_law.nd (pd_tuple T.n_tuple (pd_share (po_lc (own := [("k", 9)]) rfl sc_law.nd (pid_range T.n_range (pd_var 2)) (blkOk_by (own := [("k", 9)]) (N := N_law) (sc := defScope s_law) (by decide +kernel)) (fun _ _ _ _ _ => (pgd_name 9 sc_law.nd)) (fun _ _ _ _ _ => ptsd_nil) (fun _ _ _ _ _ => (pd_add (pd_ix (pd_var 7) (pd_var 9)) (pd_mul (pd_var 17) (pd_ix (pd_var 13) (pd_var 9)))))))))))))))
    pssd_nil)
    (pssd_cons (psd_set 8 sc_law.nd (pd_share (po_lc (own := [("base", 15), ("rays", 16)]) rfl sc_law.nd (pid_seq (pd_var 3)) (blkOk_by (own := [("base", 15), ("rays", 16)]) (N := N_law) (sc := defScope s_law) (by decide +kernel)) (fun _ _ _ _ _ => (pgd_tup rfl (pgsd_cons (pgd_name 15 sc_law.nd) (pgsd_cons (pgd_name 16 sc_law.nd) pgsd_nil)) len2)) (fun _ _ _ _ _ => ptsd_nil) (fun _ _ _ _ _ => (pd_call k_law_counts hr (by decide) takes0 (pad_cons (pd_var 15) (pad_cons (pd_var 16) (pad_cons (pd_var 7) pad_nil))))))))
    (pssd_cons (psd_for hp rfl (pid_range T.n_range (pd_len T.n_len (pd_var 3))) (pgd_name 9 sc_law.nd)
    (pssd_one (psd_if (ptd_not (ptd_val (pd_call k_law_equal hr (by decide) tk (pad_cons (pd_call k_counts_for hr (by decide) tk (pad_cons (pd_ix (pd_var 3) (pd_var 9)) (pad_cons (pd_var 7) pad_nil))) (pad_cons (pd_ix (pd_var 8) (pd_var 9)) pad_nil)))))
    (pssd_one (psd_ret pd_bl))
    pssd_nil)))
    (pssd_setLc 10 (psd_setLcO 10 (own := [("k", 9)]) rfl sc_law.nd (sw_true rfl rfl rfl (by decide +kernel)) (pid_range T.n_range (pd_len T.n_len (pd_var 3))) (blkOk_by (own := [("k", 9)]) (N := N_law) (sc := defScope s_law) (by decide +kernel)) (fun _ _ _ _ _ => (pgd_name 9 sc_law.nd)) (fun _ _ _ _ _ => (ptsd_one (ptd_notN (pd_ix (pd_var 8) (pd_var 9))))) (fun _ _ _ _ _ => (pd_var 9))) (pssd_cons (psd_if (PW.pt (pwd_or (ptd_not (ptd_val (pd_call k_law_equal hr (by decide) tk (pad_cons (pd_call k_has_vector hr (by decide) tk (pad_cons (pd_var 3) (pad_cons (pd_var 7) pad_nil))) (pad_cons (pd_cmp c_gt (pd_len T.n_len (pd_var 10)) pd_int) pad_nil))))) (pwd_or1 (ptd_not (ptd_val (pd_call k_law_equal hr (by decide) tk (pad_cons (pd_call k_way_in hr (by decide) tk (pad_cons (pd_var 3) (pad_cons (pd_var 7) pad_nil))) (pad_cons (pd_if (ptd_cmp c_gt (pd_len T.n_len (pd_var 10)) pd_int) (pd_tup (pad_cons (pd_ix (pd_var 10) pd_int) (pad_cons (pd_ix (pd_var 8) (pd_ix (pd_var 10) pd_int)) pad_nil))) pd_non) pad_nil))))))))
    (pssd_one (psd_ret pd_bl))
    pssd_nil)
    (pssd_cons (psd_setO 11 sc_law.nd (po_lst (pad_cons pd_non (pad_cons (pd_tup (pad_cons pd_int pad_nil)) (pad_cons (pd_tup (pad_cons (pd_len T.n_len (pd_var 3)) (pad_cons (pd_tup pad_nil) pad_nil))) (pad_cons (pd_tup (pad_cons pd_int (pad_cons pd_non pad_nil))) (pad_cons (pd_tup (pad_cons (pd_neg pd_int) (pad_cons (pd_tup pad_nil) pad_nil))) (pad_cons (pd_tup (pad_cons pd_bl (pad_cons (pd_tup pad_nil) pad_nil))) (pad_cons (pd_tup (pad_cons pd_int (pad_cons (pd_mul (pd_share (po_lst (pad_cons pd_int pad_nil))) (pd_len T.n_len (pd_ix (pd_ix (pd_var 3) pd_int) pd_int))) pad_nil))) (pad_cons (pd_tup (pad_cons pd_int (pad_cons (pd_mul (pd_tup (pad_cons pd_int pad_nil)) (pd_add (pd_len T.n_len (pd_ix (pd_ix (pd_var 3) pd_int) pd_int)) pd_int)) pad_nil))) pad_nil))))))))))
    (pssd_cons (psd_for hp rfl (pid_seq (pd_var 10)) (pgd_name 9 sc_law.nd)
    (pssd_cons (psd_app 11 (pd_tup (pad_cons (pd_var 9) (pad_cons (pd_ix (pd_var 8) (pd_var 9)) pad_nil))))
    (pssd_cons (psd_app 11 (pd_share (po_lst (pad_cons (pd_var 9) (pad_cons (pd_ix (pd_var 8) (pd_var 9)) pad_nil)))))
    (pssd_one (psd_for hp rfl (pid_range T.n_range (pd_len T.n_len (pd_ix (pd_var 8) (pd_var 9)))) (pgd_name 14 sc_law.nd)
    (pssd_cons (psd_app 11 (pd_tup (pad_cons (pd_var 9) (pad_cons (pd_add (pd_add (pd_slice (pd_ix (pd_var 8) (pd_var 9)) po_no (po_so (pd_var 14))) (pd_tup (pad_cons (pd_add (pd_ix (pd_ix (pd_var 8) (pd_var 9)) (pd_var 14)) pd_int) pad_nil))) (pd_slice (pd_ix (pd_var 8) (pd_var 9)) (po_so (pd_add (pd_var 14) pd_int)) po_no)) pad_nil))))
    (pssd_one (psd_app 11 (pd_tup (pad_cons (pd_var 9) (pad_cons (pd_add (pd_add (pd_slice (pd_ix (pd_var 8) (pd_var 9)) po_no (po_so (pd_var 14))) (pd_tup (pad_cons (pd_sub (pd_ix (pd_ix (pd_var 8) (pd_var 9)) (pd_var 14)) pd_int) pad_nil))) (pd_slice (pd_ix (pd_var 8) (pd_var 9)) (po_so (pd_add (pd_var 14) pd_int)) po_no)) pad_nil)))))))))))
    (pssd_shut 11 (pssd_one (psd_for hp rfl (pid_seq (pd_var 11)) (pgd_name 12 sc_law.nd)
    (pssd_one (psd_if (ptd_not (ptd_val (pd_call k_law_equal hr (by decide) tk (pad_cons (pd_call k_is_way_in hr (by decide) tk (pad_cons (pd_var 3) (pad_cons (pd_var 7) (pad_cons (pd_var 12) pad_nil)))) (pad_cons (pd_call k_law_right hr (by decide) tk (pad_cons (pd_var 3) (pad_cons (pd_var 7) (pad_cons (pd_var 12) pad_nil)))) pad_nil)))))
    (pssd_one (psd_ret pd_bl))
    pssd_nil))))))))))))))
    (pssd_cons (psd_set 5 sc_law.nd (pd_share (po_lst (pad_cons pd_non (pad_cons (pd_tup pad_nil) (pad_cons (pd_tup (pad_cons (pd_tup (pad_cons pd_int pad_nil)) (pad_cons (pd_share (po_lst (pad_cons (pd_tup (pad_cons pd_int pad_nil)) pad_nil))) pad_nil))) (pad_cons (pd_tup (pad_cons (pd_tup (pad_cons (pd_neg pd_int) pad_nil)) (pad_cons (pd_share (po_lst pad_nil)) pad_nil))) (pad_cons (pd_tup (pad_cons (pd_tup (pad_cons pd_int pad_nil)) (pad_cons (pd_share (po_lst (pad_cons (pd_tup (pad_cons pd_int pad_nil)) (pad_cons (pd_tup (pad_cons pd_int pad_nil)) pad_nil)))) pad_nil))) (pad_cons (pd_tup (pad_cons (pd_tup (pad_cons pd_int pad_nil)) (pad_cons (pd_share (po_lst (pad_cons (pd_tup (pad_cons pd_int pad_nil)) (pad_cons (pd_tup (pad_cons pd_int pad_nil)) pad_nil)))) pad_nil))) (pad_cons (pd_tup (pad_cons (pd_tup (pad_cons pd_int pad_nil)) (pad_cons (pd_tup (pad_cons (pd_tup (pad_cons pd_int pad_nil)) pad_nil)) pad_nil))) (pad_cons (pd_tup (pad_cons (pd_mul (pd_tup (pad_cons pd_int pad_nil)) pd_int) (pad_cons (pd_share (po_lst pad_nil)) pad_nil))) pad_nil)))))))))))
    (pssd_cons (psd_for hp rfl (pid_seq (pd_add (pd_var 5) (pd_share (po_lst (pad_cons (pd_tup (pad_cons (pd_tup (pad_cons pd_int pad_nil)) (pad_cons (pd_share (po_lst (pad_cons (pd_tup (pad_cons pd_int (pad_cons pd_int pad_nil))) pad_nil))) pad_nil))) (pad_cons (pd_tup (pad_cons (pd_tup (pad_cons (pd_add (pd_pow pd_int pd_int) pd_int) pad_nil)) (pad_cons (pd_share (po_lst pad_nil)) pad_nil))) (pad_cons (pd_tup (pad_cons (pd_tup (pad_cons pd_int pad_nil)) (pad_cons (pd_share (po_lst (pad_cons (pd_tup (pad_cons (pd_add (pd_pow pd_int pd_int) pd_int) pad_nil)) pad_nil))) pad_nil))) (pad_cons (pd_tup (pad_cons (pd_tup (pad_cons pd_bl pad_nil)) (pad_cons (pd_share (po_lst pad_nil)) pad_nil))) pad_nil)))))))) (pgd_name 6 sc_law.nd)
    (pssd_one (psd_if (ptd_cmp (c_ne hr) (pd_call k_law_refused hr (by decide) tk (pad_cons (pd_var 6) (pad_cons (pd_tup (pad_cons pd_int pad_nil)) pad_nil))) pd_str)
    (pssd_one (psd_ret pd_bl))
    pssd_nil)))
    (pssd_cons (psd_for hp rfl (pid_seq (pd_tup (pad_cons pd_non (pad_cons (pd_mul (pd_tup (pad_cons pd_int pad_nil)) (pd_add (pd_var 2) pd_int)) (pad_cons (pd_mul (pd_tup (pad_cons pd_int pad_nil)) (pd_var 2)) (pad_cons (pd_mul (pd_tup (pad_cons (pd_neg pd_int) pad_nil)) (pd_var 2)) (pad_cons (pd_mul (pd_share (po_lst (pad_cons pd_int pad_nil))) (pd_var 2)) (pad_cons (pd_mul (pd_tup (pad_cons pd_bl pad_nil)) (pd_var 2)) pad_nil)))))))) (pgd_name 6 sc_law.nd)
    (pssd_one (psd_if (ptd_cmp (c_ne hr) (pd_call k_law_refused hr (by decide) tk (pad_cons (pd_ix (pd_var 3) pd_int) (pad_cons (pd_var 6) pad_nil))) pd_str)
    (pssd_one (psd_ret pd_bl))
    pssd_nil)))
    (pssd_one (psd_ret (pd_and (pd_call k_law_equal hr (by decide) tk (pad_cons (pd_call k_has_vector hr (by decide) tk (pad_cons (pd_share (po_lst pad_nil)) (pad_cons (pd_tup (pad_cons pd_int (pad_cons pd_int pad_nil))) pad_nil))) (pad_cons pd_bl pad_nil))) (pd_one (pd_call k_law_equal hr (by decide) tk (pad_cons (pd_call k_way_in hr (by decide) tk (pad_cons (pd_share (po_lst pad_nil)) (pad_cons (pd_tup (pad_cons pd_int pad_nil)) pad_nil))) (pad_cons pd_non pad_nil))))))))))))))) hm
end
end K

set_option Elab.async false
set_option linter.all false
set_option maxRecDepth 100000
set_option maxHeartbeats 400000
namespace K
open PySem DL PyProof.Rows
/-! the laws' common helpers: what their mirrors give -/
def mixI (n k : Int) : Int := (((n * 48271 + k * 69621 + 12345) % 2147483647) * (((n * 48271 + k * 69621 + 12345) % 2147483647) / 65536 + 3) + k) % 2147483647
theorem mixed_eq (n k : Int) (g : G) : m_law_mixed [.int n, .int k] g = .ok (.int (mixI n k)) g := by
  have h : (-18446744073709551616 < (n * 48271 + k * 69621 + 12345) % 2147483647 ∧ (n * 48271 + k * 69621 + 12345) % 2147483647 < 18446744073709551616) := by omega
  simp [m_law_mixed, b_law_mixed, h, mixI]
theorem mixed_ex : ∃ mx : Int → Int → Int, ∀ (n k : Int) (g : G), m_law_mixed [.int n, .int k] g = .ok (.int (mx n k)) g := ⟨mixI, mixed_eq⟩
theorem draw1 {ms : List Int} {m0 : Int} (j : Nat) (hj : j < ms.length) (h1 : L2.atI (ms.map PyData.int) (j : Int) = some (.int m0)) : m_law_draw [] (some (.dr ms (j : Int))) = .ok (.int m0) (some (.dr ms ((j : Int) + 1))) := by
  simp [m_law_draw, b_law_draw, ixD, h1, hj]
theorem draw2 {ms : List Int} {m0 : Int} (mixI : Int → Int → Int) (mixed_eq : ∀ (n k : Int) (g : G), m_law_mixed [.int n, .int k] g = .ok (.int (mixI n k)) g) (j : Nat) (hj : ¬ j < ms.length) (h0 : 0 < ms.length) (h1 : L2.atI (ms.map PyData.int) 0 = some (.int m0)) : m_law_draw [] (some (.dr ms (j : Int))) = .ok (.int (mixI (mixI (1 + (j : Int) + 1009 * m0) j) 5 % 1000000)) (some (.dr ms ((j : Int) + 1))) := by
  simp only [m_law_draw, b_law_draw, fnD, seqS, setS_ap, dr1]
  simp [ixD, h1, hj, h0]
  simp [mixed_eq]
theorem draw3 (mixI : Int → Int → Int) (mixed_eq : ∀ (n k : Int) (g : G), m_law_mixed [.int n, .int k] g = .ok (.int (mixI n k)) g) (i : Int) (hj : decide (i < 0) = false) : m_law_draw [] (some (.dr [] (i))) = .ok (.int (mixI (mixI (1 + i) i) 5 % 1000000)) (some (.dr [] (i + 1))) := by
  simp only [m_law_draw, b_law_draw, fnD, seqS, setS_ap, dr1]
  simp [ixD, hj]
  simp [mixed_eq]
/-- the draws' state: the numbers fixed, the count not below nought -/
def Dr (ms : List Int) (g : G) : Prop := ∃ i : Int, 0 ≤ i ∧ g = some (.dr ms i)
theorem draw_any {ms : List Int} {g : G} (hg : Dr ms g) : ∃ (r : Int) (g' : G), m_law_draw [] g = .ok (.int r) g' ∧ Dr ms g' := by
  obtain ⟨i, hi, rfl⟩ := hg
  obtain ⟨j, rfl⟩ : ∃ j : Nat, i = (j : Int) := ⟨i.toNat, by omega⟩
  obtain ⟨mx, hx⟩ := mixed_ex
  by_cases hj : j < ms.length
  · exact ⟨_, some (.dr _ _), draw1 j hj (L2.atI_nat (by rw [List.getElem?_map, List.getElem?_eq_getElem hj]; rfl)), _, by omega, rfl⟩
  · by_cases h0 : 0 < ms.length
    · exact ⟨_, some (.dr _ _), draw2 mx hx j hj h0 (L2.atI_nat (j := 0) (by rw [List.getElem?_map, List.getElem?_eq_getElem h0]; rfl)), _, by omega, rfl⟩
    · obtain rfl : ms = [] := List.eq_nil_of_length_eq_zero (by omega)
      exact ⟨_, some (.dr _ _), draw3 mx hx j (decide_eq_false (by omega)), _, by omega, rfl⟩
theorem md {r n : Int} (h : 0 < n) : modD (.int r) (.int n) = some (.int (r % n)) := by simp [h]
theorem md_bd {r n : Int} (h : 0 < n) : 0 ≤ r % n ∧ r % n < n := ⟨Int.emod_nonneg _ (by omega), Int.emod_lt_of_pos _ h⟩
/-- data of a depth of at most n -/
def Dep : Nat → PyData → Prop
  | _, .none => True
  | _, .bool _ => True
  | _, .int _ => True
  | _, .str _ => True
  | n + 1, .list ds => ∀ d ∈ ds, Dep n d
  | n + 1, .tuple ds => ∀ d ∈ ds, Dep n d
  | _, _ => False
theorem all_refl {m : Fn} {g : G} {D : PyData} {ds : List PyData} (hD : D = .list ds ∨ D = .tuple ds) (hl : ds.length ≤ 1000000) (h : ∀ d ∈ ds, m [d, d] g = .ok (.bool true) g) : fnD 1 false (b_law_all_equal m) [D, D] g = .ok (.bool true) g := by
  have hlen : lenD D = some (.int ds.length) := by rcases hD with rfl | rfl <;> rfl
  have hix : ∀ k : Nat, (hk : k < ds.length) → ixD D (.int (0 + (k : Int))) = some ds[k] := fun k hk => by
    have e := atI_at (xs := ds) (i := 0 + (k : Int)) (j := k) (by omega) (List.getElem?_eq_getElem hk)
    rcases hD with rfl | rfl <;> exact e
  obtain ⟨ρ', g', h1, rfl, z, rfl⟩ := forD_all (t := nameT 2) (body := ifS (notT (truthD (callD 2 m (consD (opD ixD (varD 0) (varD 2)) (consD (opD ixD (varD 1) (varD 2)) nilD))))) (retS (constD (.bool false))) nextS) (fun k : Nat => PyData.int (0 + (k : Int)))
    (fun _ ρ g' => g' = g ∧ ∃ z, ρ = [.sh D, .sh D, z]) (List.range ds.length) (by
      rintro pre k post e ρ g' ⟨rfl, z, rfl⟩
      have hk : k < ds.length := by
        have : k ∈ List.range ds.length := by rw [e]; simp
        exact List.mem_range.mp this
      refine ⟨_, _, g', rfl, .inl ?_, rfl, .sh (.int (0 + (k : Int))), rfl⟩
      have hi := hix k hk
      have hm := h _ (List.getElem_mem hk)
      simp only [Int.zero_add] at hi
      simp [hi, hm]) (ρ := [.sh D, .sh D, .no]) (g := g) ⟨rfl, .no, rfl⟩
  have hb : (ds.length : Int) ≤ 1000000 ∧ -1000000 ≤ (ds.length : Int) := by omega
  have h2 := h1
  rw [show (List.range ds.length).map (fun k : Nat => PyData.int (0 + (k : Int))) = upFrom 0 ds.length from rfl] at h2
  rcases hD with rfl | rfl <;> simp [b_law_all_equal, hlen, big, hb, h2]
/-- no list or tuple in it is too long -/
def Nar : Nat → PyData → Prop
  | n + 1, .list ds => ds.length ≤ 1000000 ∧ ∀ d ∈ ds, Nar n d
  | n + 1, .tuple ds => ds.length ≤ 1000000 ∧ ∀ d ∈ ds, Nar n d
  | _, .none => True
  | _, .bool _ => True
  | _, .int _ => True
  | _, .str _ => True
  | _, _ => False
theorem eq_step {ds : List PyData} {D : PyData} {m : Fn} {g : G} (hD : D = .list ds ∨ D = .tuple ds) (h : m [D, D] g = .ok (.bool true) g) : fnD 0 false (b_law_equal m) [D, D] g = .ok (.bool true) g := by
  rcases hD with rfl | rfl <;> simp [b_law_equal, isT, eqD, neD, SeqAt.shaped, h]
theorem eq_refl : ∀ (n : Nat) (d : PyData) (g : G) (k : Nat), Nar n d → 2 * n + 1 ≤ k → eqA k [d, d] g = .ok (.bool true) g := by
  intro n
  induction n with
  | zero =>
    intro d g k hd hk
    obtain ⟨k, rfl⟩ : ∃ j, k = j + 1 := ⟨k - 1, by omega⟩
    unfold eqA
    cases d <;> first | (exact False.elim hd) | simp [b_law_equal, isT, eqD, SeqAt.shaped]
  | succ n ih =>
    intro d g k hd hk
    obtain ⟨k, rfl⟩ : ∃ j, k = j + 2 := ⟨k - 2, by omega⟩
    have go : ∀ ds, (d = .list ds ∨ d = .tuple ds) → ds.length ≤ 1000000 → (∀ e ∈ ds, Nar n e) → eqA (k + 2) [d, d] g = .ok (.bool true) g := fun ds hD hl hs => by
      unfold eqA
      refine eq_step hD ?_
      unfold eqB
      exact all_refl hD hl fun e he => ih e g k (hs e he) (by omega)
    cases d with
    | list ds => exact go ds (.inl rfl) hd.1 hd.2
    | tuple ds => exact go ds (.inr rfl) hd.1 hd.2
    | none => unfold eqA; simp [b_law_equal, isT, eqD, SeqAt.shaped]
    | bool b => unfold eqA; simp [b_law_equal, isT, eqD, SeqAt.shaped]
    | int i => unfold eqA; simp [b_law_equal, isT, eqD, SeqAt.shaped]
    | str t => unfold eqA; simp [b_law_equal, isT, eqD, SeqAt.shaped]
    | _ => exact False.elim hd
theorem equal_refl {d : PyData} (g : G) (h : Nar 7 d) : m_law_equal [d, d] g = .ok (.bool true) g := eq_refl 7 d g 16 h (by decide)
/-! the script's numbers -/
def NumR (n : Nat) (ρ : Nv) (g : G) : Prop := g = none ∧ ∃ (ms : List Int) (z2 z3 z4 : Sl), ρ = [.sc 0, .ow (.lst (ms.map PyData.int)), z2, z3, z4] ∧ ms.length ≤ n ∧ ∀ m ∈ ms, 0 ≤ m ∧ m < 1000000
theorem mem_snoc {ms : List Int} {a : Int} (h : ∀ m ∈ ms, 0 ≤ m ∧ m < 1000000) : ∀ m ∈ ms ++ [a % 1000000], 0 ≤ m ∧ m < 1000000 := fun m hm => by
  rcases List.mem_append.mp hm with z | z
  · exact h m z
  · obtain rfl := List.mem_singleton.mp z
    exact ⟨Int.emod_nonneg _ (by decide), Int.emod_lt_of_pos _ (by decide)⟩
theorem pow1018 : (10 : Int) ^ (18 : Int).toNat = 1000000000000000000 := by decide
theorem num_small (mx : Int → Int → Int) (hx : ∀ (n k : Int) (g : G), m_law_mixed [.int n, .int k] g = .ok (.int (mx n k)) g) {c : Int} {ms : List Int} {z2 z3 z4 : Sl} (hc : decide (1000000000000000000 ≤ c) = false) (hl : ms.length ≤ 4000) (hs : ∀ m ∈ ms, 0 ≤ m ∧ m < 1000000) :
    ∃ ρ', b_law_numbers [.sc 0, .ow (.lst (ms.map PyData.int)), .sh (.int c), z3, z4] none = .nx ρ' none ∧ NumR (ms.length + 60) ρ' none := by
  obtain ⟨ρ', g', h1, rfl, ms', z, rfl, h3, h4⟩ := forD_all (t := nameT 4) (body := appS 1 (opD modD (callD 2 m_law_mixed (consD (callD 2 m_law_mixed (consD (opD modD (varD 2) (constD (.int 2147483647))) (consD (varD 4) nilD))) (consD (opD addD (varD 4) (constD (.int 7))) nilD))) (constD (.int 1000000)))) (fun k : Nat => PyData.int (0 + (k : Int)))
    (fun pre ρ g' => g' = none ∧ ∃ (ms' : List Int) (z : Sl), ρ = [.sc 0, .ow (.lst (ms'.map PyData.int)), .sh (.int c), z3, z] ∧ ms'.length = ms.length + 1 + pre.length ∧ ∀ m ∈ ms', 0 ≤ m ∧ m < 1000000) (List.range 5) (by
      rintro pre k post e ρ g' ⟨rfl, ms', z, rfl, h1, h2⟩
      have hk : pre.length < 5 := by
        have := congrArg List.length e
        simp at this
        omega
      have hb : ms'.length < 1000000 := by omega
      refine ⟨_, _, none, rfl, .inl ?_, rfl, ms' ++ [mx (mx (c % 2147483647) k) (k + 7) % 1000000], .sh (.int (0 + (k : Int))), rfl, by simp; omega, mem_snoc h2⟩
      simp [hx, big, hb]) (ρ := [.sc 0, .ow (.lst ((ms ++ [c % 1000000]).map PyData.int)), .sh (.int c), z3, z4]) (g := none) ⟨rfl, _, _, rfl, by simp, mem_snoc hs⟩
  refine ⟨[.sc 0, .ow (.lst (ms'.map PyData.int)), .sh (.int c), z3, z], ?_, rfl, ms', .sh (.int c), z3, z, rfl, by rw [h3, List.length_range]; omega, h4⟩
  have hb : ms.length < 1000000 := by omega
  have h2 := h1
  rw [show (List.range 5).map (fun k : Nat => PyData.int (0 + (k : Int))) = upFrom 0 5 from rfl] at h2
  rw [List.map_append] at h2
  have h6 : appS 1 (opD modD (varD 2) (constD (.int 1000000))) [.sc 0, .ow (.lst (ms.map PyData.int)), .sh (.int c), z3, z4] none = .nx [.sc 0, .ow (.lst (ms.map PyData.int ++ [PyData.int (c % 1000000)])), .sh (.int c), z3, z4] none := by
    simp [big, hb]
  have h7 : boolD (opD (cmpD fun i j => decide (j ≤ i)) (varD 2) (opD powD (constD (.int 10)) (constD (.int 18)))) [.sc 0, .ow (.lst (ms.map PyData.int)), .sh (.int c), z3, z4] none = .ok false none := by
    simp [pow1018, hc]
  unfold b_law_numbers ifS
  rw [h7]
  show seqS _ _ _ _ = _
  unfold seqS
  rw [h6]
  show forS _ _ _ _ _ = _
  unfold forS
  rw [show rangeD (constD (.int 5)) [.sc 0, .ow (.lst (ms.map PyData.int ++ [PyData.int (c % 1000000)])), .sh (.int c), z3, z4] none = .ok (upFrom 0 5) none by simp [big]]
  exact h2
theorem num_big {c : Int} {ms : List Int} {z2 z3 z4 : Sl} (hc : decide (1000000000000000000 ≤ c) = true) (hl : ms.length ≤ 4000) (hs : ∀ m ∈ ms, 0 ≤ m ∧ m < 1000000) :
    ∃ ρ', b_law_numbers [.sc 0, .ow (.lst (ms.map PyData.int)), .sh (.int c), z3, z4] none = .nx ρ' none ∧ NumR (ms.length + 60) ρ' none := by
  obtain ⟨ρ', g', h1, rfl, ms', r, z, rfl, h3, h4⟩ := forD_all (t := nameT 4) (body := (ifS (boolD (opD (cmpD fun i j => decide (j < i)) (varD 3) (constD (.int 0))))
  (seqS (appS 1 (opD modD (varD 3) (constD (.int 1000000))))
  (setS 3 (opD fdivD (varD 3) (constD (.int 1000000)))))
  nextS)) (fun k : Nat => PyData.int (0 + (k : Int)))
    (fun pre ρ g' => g' = none ∧ ∃ (ms' : List Int) (r : Int) (z : Sl), ρ = [.sc 0, .ow (.lst (ms'.map PyData.int)), .sh (.int c), .sh (.int r), z] ∧ ms'.length ≤ ms.length + pre.length ∧ ∀ m ∈ ms', 0 ≤ m ∧ m < 1000000) (List.range 60) (by
      rintro pre k post e ρ g' ⟨rfl, ms', r, z, rfl, h1, h2⟩
      have hk : pre.length < 60 := by
        have := congrArg List.length e
        simp at this
        omega
      have hb : ms'.length < 1000000 := by omega
      by_cases hr : 0 < r
      · refine ⟨_, _, none, rfl, .inl ?_, rfl, ms' ++ [r % 1000000], r / 1000000, .sh (.int (0 + (k : Int))), rfl, by simp; omega, mem_snoc h2⟩
        simp [big, hb, hr]
      · refine ⟨_, _, none, rfl, .inl ?_, rfl, ms', r, .sh (.int (0 + (k : Int))), rfl, by simp; omega, h2⟩
        simp [big, hb, hr]) (ρ := [.sc 0, .ow (.lst (ms.map PyData.int)), .sh (.int c), .sh (.int c), z4]) (g := none) ⟨rfl, _, _, _, rfl, by simp, hs⟩
  refine ⟨[.sc 0, .ow (.lst (ms'.map PyData.int)), .sh (.int c), .sh (.int r), z], ?_, rfl, ms', .sh (.int c), .sh (.int r), z, rfl, by rw [List.length_range] at h3; exact h3, h4⟩
  have h2 := h1
  rw [show (List.range 60).map (fun k : Nat => PyData.int (0 + (k : Int))) = upFrom 0 60 from rfl] at h2
  have h7 : boolD (opD (cmpD fun i j => decide (j ≤ i)) (varD 2) (opD powD (constD (.int 10)) (constD (.int 18)))) [.sc 0, .ow (.lst (ms.map PyData.int)), .sh (.int c), z3, z4] none = .ok true none := by
    simp [pow1018, hc]
  unfold b_law_numbers ifS
  rw [h7]
  show seqS _ _ _ _ = _
  unfold seqS
  rw [show setS 3 (varD 2) [.sc 0, .ow (.lst (ms.map PyData.int)), .sh (.int c), z3, z4] none = .nx [.sc 0, .ow (.lst (ms.map PyData.int)), .sh (.int c), .sh (.int c), z4] none from rfl]
  show forS _ _ _ _ _ = _
  unfold forS
  rw [show rangeD (constD (.int 60)) [.sc 0, .ow (.lst (ms.map PyData.int)), .sh (.int c), .sh (.int c), z4] none = .ok (upFrom 0 60) none by simp [big]]
  exact h2
theorem numbers_ok (ns : List Int) (hn : ns.length ≤ 63) : ∃ (ms : List Int) (ρ' : Nv), Small ms ∧ forD t_law_numbers b_law_numbers (ns.map PyData.int) (.sc 0 :: .ow (.lst []) :: List.replicate 3 .no) none = .nx ρ' none ∧ ρ'[1]? = some (.ow (.lst (ms.map PyData.int))) := by
  obtain ⟨mx, hx⟩ := mixed_ex
  obtain ⟨ρ', g', h1, rfl, ms, z2, z3, z4, rfl, h2, h3⟩ := forD_all (t := t_law_numbers) (body := b_law_numbers) PyData.int (fun pre ρ g => NumR (60 * pre.length) ρ g) ns (by
    rintro pre c post e ρ g ⟨rfl, ms, z2, z3, z4, rfl, h1, h2⟩
    have hk : pre.length < 63 := by
      have := congrArg List.length e
      simp at this
      omega
    have go : ∃ ρ', b_law_numbers [.sc 0, .ow (.lst (ms.map PyData.int)), .sh (.int c), z3, z4] none = .nx ρ' none ∧ NumR (ms.length + 60) ρ' none := by
      cases hc : decide (1000000000000000000 ≤ c) with
      | true => exact num_big (z2 := z2) hc (by omega) h2
      | false => exact num_small mx hx (z2 := z2) hc (by omega) h2
    obtain ⟨ρ', h3, _, ms', y2, y3, y4, rfl, h5, h6⟩ := go
    exact ⟨_, _, none, rfl, .inl h3, rfl, ms', y2, y3, y4, rfl, by simp; omega, h6⟩) (ρ := .sc 0 :: .ow (.lst []) :: List.replicate 3 .no) (g := none) ⟨rfl, [], .no, .no, .no, rfl, by simp, fun _ h => nomatch h⟩
  exact ⟨ms, _, ⟨by omega, h3⟩, h1, rfl⟩
/-! stepping through a body that must end with a given answer -/
section
variable {d : PyData}
def Ends (s : Sm) (ρ : Nv) (g : G) (d : PyData) : Prop := ∃ g', s ρ g = .rt d g'
theorem go_seq {a b : Sm} {ρ ρ1 : Nv} {g g1 : G} (h : a ρ g = .nx ρ1 g1) (k : Ends b ρ1 g1 d) : Ends (seqS a b) ρ g d := by
  obtain ⟨g', k⟩ := k
  exact ⟨g', by unfold seqS; rw [h]; exact k⟩
theorem go_shut {b : Sm} {i : Nat} {ds : List PyData} {ρ ρ1 : Nv} {g : G} (h : ρ[i]? = some (.ow (.lst ds))) (h1 : ρ.set i (.sh (.list ds)) = ρ1) (k : Ends b ρ1 g d) : Ends (shutS i b) ρ g d := by
  obtain ⟨g', k⟩ := k
  exact ⟨g', by unfold shutS; rw [h]; show b (ρ.set i _) g = _; rw [h1]; exact k⟩
theorem if_no {c : Te} {s t : Sm} {ρ : Nv} {g g1 : G} (h : c ρ g = .ok false g1) : ifS c s t ρ g = t ρ g1 := by unfold ifS; rw [h]
theorem if_yes {c : Te} {s t : Sm} {ρ : Nv} {g g1 : G} (h : c ρ g = .ok true g1) : ifS c s t ρ g = s ρ g1 := by unfold ifS; rw [h]
theorem for_run {fi : Ar} {t : Tg} {b : Sm} {ds : List PyData} {ρ ρ1 : Nv} {g g1 g2 : G} (h : fi ρ g = .ok ds g1) (k : forD t b ds ρ g1 = .nx ρ1 g2) : forS fi t b ρ g = .nx ρ1 g2 := by unfold forS; rw [h]; exact k
end
end K

set_option Elab.async false
set_option linter.all false
set_option maxRecDepth 100000
set_option maxHeartbeats 400000
namespace K
open PySem DL PyProof.Rows
/-! what is needed everywhere: items, loops, tests, parts of expressions -/
theorem Dr.nob {ms : List Int} {g : DL.G} (h : Dr ms g) : nob g = true := by
  obtain ⟨i, _, rfl⟩ := h
  rfl
@[simp] theorem ix0 (a : PyData) (r : List PyData) : ixD (.tuple (a :: r)) (.int 0) = some a := L2.atI_nat (j := 0) rfl
@[simp] theorem ix1 (a b : PyData) (r : List PyData) : ixD (.tuple (a :: b :: r)) (.int 1) = some b := L2.atI_nat (j := 1) rfl
@[simp] theorem ix2 (a b c : PyData) (r : List PyData) : ixD (.tuple (a :: b :: c :: r)) (.int 2) = some c := L2.atI_nat (j := 2) rfl
@[simp] theorem ix0l (a : PyData) (r : List PyData) : ixD (.list (a :: r)) (.int 0) = some a := L2.atI_nat (j := 0) rfl
theorem ix_map {α : Type} (enc : α → PyData) (xs : List α) (k : Nat) (x : α) (h : xs[k]? = some x) : ixD (.tuple (xs.map enc)) (.int (k : Int)) = some (enc x) := L2.atI_nat (by rw [List.getElem?_map, h]; rfl)
theorem ix_mapl {α : Type} (enc : α → PyData) (xs : List α) (k : Nat) (x : α) (h : xs[k]? = some x) : ixD (.list (xs.map enc)) (.int (k : Int)) = some (enc x) := L2.atI_nat (by rw [List.getElem?_map, h]; rfl)
theorem shp_list {ds : List PyData} (h : ∀ d ∈ ds, d.canLay0 = true ∧ d.depth ≤ 10) : SeqAt.shaped (.list ds) = true := by
  have h1 : PyData.canLayAll0 ds = true ∧ PyData.depthAll ds ≤ 10 := by
    induction ds with
    | nil => exact ⟨by simp [PyData.canLayAll0], by simp [PyData.depthAll]⟩
    | cons d r ih =>
      obtain ⟨a, b⟩ := ih fun z hz => h z (List.mem_cons_of_mem _ hz)
      obtain ⟨a', b'⟩ := h d List.mem_cons_self
      exact ⟨by simp [PyData.canLayAll0, a, a'], by simp [PyData.depthAll]; omega⟩
  simp [SeqAt.shaped, PyData.canLay0, PyData.depth, h1.1]
  omega
theorem seq_eq {a b : Sm} {ρ ρ1 : Nv} {g g1 : G} (h : a ρ g = .nx ρ1 g1) : seqS a b ρ g = b ρ1 g1 := by unfold seqS; rw [h]
theorem range_pre {m k : Nat} {pre post : List Nat} (e : List.range m = pre ++ k :: post) : pre.length = k ∧ k < m ∧ pre = List.range k := by
  have h1 : (List.range m)[pre.length]? = some k := by rw [e]; simp
  obtain ⟨h2, h3⟩ := List.getElem?_eq_some_iff.mp h1
  rw [List.getElem_range] at h3
  rw [List.length_range] at h2
  refine ⟨h3, by omega, ?_⟩
  have h4 : (List.range m).take pre.length = pre := by rw [e]; simp
  rw [List.take_range, Nat.min_eq_left (by omega), h3] at h4
  exact h4.symm
theorem whileS_eq {c : Te} {b : Sm} {n : Nat} {ρ : Nv} {g : G} {r : SR} (h : whileN c b n ρ g = r) (hr : r ≠ .bad) : whileS c b ρ g = r := by
  have hn : whileN c b n ρ g ≠ .bad := by rw [h]; exact hr
  have he : ∃ n, whileN c b n ρ g ≠ .bad := ⟨n, hn⟩
  unfold whileS
  rw [dif_pos he]
  have h1 := Classical.choose_spec he
  have a := whileN_mono h1 n
  have b' := whileN_mono hn (Classical.choose he)
  rw [Nat.add_comm] at a
  rw [a] at b'
  rw [← h, ← b']
theorem whileS_run {c : Te} {b : Sm} (P : Nat → Nv → G → Prop) (Qf : Nv → G → Prop) (step : ∀ k ρ g, P k ρ g → (c ρ g = .ok false g ∧ Qf ρ g) ∨ (∃ g1 ρ2 g2 k2, c ρ g = .ok true g1 ∧ b ρ g1 = .nx ρ2 g2 ∧ P k2 ρ2 g2 ∧ k2 < k)) :
    ∀ k ρ g, P k ρ g → ∃ ρ' g', whileS c b ρ g = .nx ρ' g' ∧ Qf ρ' g' := by
  have key : ∀ k ρ g, P k ρ g → ∃ n ρ' g', whileN c b n ρ g = .nx ρ' g' ∧ Qf ρ' g' := by
    intro k
    induction k using Nat.strongRecOn with
    | ind k ih =>
      intro ρ g h
      rcases step k ρ g h with ⟨h1, h2⟩ | ⟨g1, ρ2, g2, k2, h1, h2, h3, h4⟩
      · refine ⟨1, ρ, g, ?_, h2⟩
        unfold whileN
        rw [h1]
      · obtain ⟨n, ρ', g', h5, h6⟩ := ih k2 h4 ρ2 g2 h3
        refine ⟨n + 1, ρ', g', ?_, h6⟩
        unfold whileN
        rw [h1]
        simp only [h2, h5]
  intro k ρ g h
  obtain ⟨n, ρ', g', h1, h2⟩ := key k ρ g h
  exact ⟨ρ', g', whileS_eq h1 (fun z => nomatch z), h2⟩
theorem find_none {α : Type} (p : α → Bool) (l : List α) : (l.find? fun x => !p x) = none ↔ l.all p = true := by
  rw [List.find?_eq_none, List.all_eq_true]
  constructor
  · intro h x hx
    have := h x hx
    simpa using this
  · intro h x hx
    simp [h x hx]
theorem find_some {α : Type} (p : α → Bool) (l : List α) {x : α} (h : (l.find? fun x => !p x) = some x) : l.all p = false := by
  cases e : l.all p with
  | false => rfl
  | true =>
    rw [(find_none p l).mpr e] at h
    cases h
theorem forD_find {α : Type} {t : Tg} {body : Sm} (enc : α → PyData) (R : Nv → Prop) (c : α → Bool) (res : α → PyData) (g : DL.G) : ∀ (xs : List α), (∀ x ∈ xs, ∀ ρ, R ρ → ∃ ρ1 ρ2, t (enc x) ρ = some ρ1 ∧ R ρ2 ∧ body ρ1 g = if c x = true then .rt (res x) g else .nx ρ2 g) → ∀ ρ, R ρ →
    (∃ x, xs.find? c = some x ∧ forD t body (xs.map enc) ρ g = .rt (res x) g) ∨ (xs.find? c = none ∧ ∃ ρ', R ρ' ∧ forD t body (xs.map enc) ρ g = .nx ρ' g) := by
  intro xs
  induction xs with
  | nil => intro _ ρ r; exact .inr ⟨rfl, ρ, r, rfl⟩
  | cons x xs ih =>
    intro h ρ r
    obtain ⟨ρ1, ρ2, h1, h2, h3⟩ := h x (by simp) ρ r
    rw [List.map_cons]
    by_cases hc : c x = true
    · rw [if_pos hc] at h3
      refine .inl ⟨x, by rw [List.find?_cons_of_pos hc], ?_⟩
      unfold forD
      rw [h1]
      simp only [h3]
    · rw [if_neg hc] at h3
      rw [List.find?_cons_of_neg hc]
      have e : forD t body (enc x :: xs.map enc) ρ g = forD t body (xs.map enc) ρ2 g := by
        rw [forD, h1]
        simp only [h3]
      rw [e]
      exact ih (fun y hy => h y (by simp [hy])) ρ2 h2
theorem comp_none {α : Type} {i : Nat} {cond : Te} (enc : α → PyData) (xs : List α) (ρ : Nv) (g : G) (h : ∀ x ∈ xs, cond (ρ.set i (.sh (enc x))) g = .ok false g) : compD (nameT i) cond (varD i) (xs.map enc) ρ g = .ok [] g := by
  have := compD_pure (t := nameT i) (cond := cond) (elt := varD i) enc (fun _ => false) enc xs ρ g fun x hx => ⟨_, rfl, h x hx, fun z => nomatch z⟩
  rw [this]
  rw [show xs.filter (fun _ => false) = [] from List.filter_eq_nil_iff.mpr fun _ _ => by simp]
  rfl
theorem cut_map {α : Type} (f : α → PyData) (l : List α) (lo hi : Option Int) : ∃ l' : List α, cutP (l.map f) lo hi = l'.map f ∧ l'.length ≤ l.length ∧ ∀ x ∈ l', x ∈ l := by
  unfold cutP
  rw [List.length_map]
  refine ⟨(l.drop (HT.sIx l.length 0 lo)).take (HT.sIx l.length l.length hi - HT.sIx l.length 0 lo), by rw [List.map_take, List.map_drop], by rw [List.length_take, List.length_drop]; omega, fun x hx => List.mem_of_mem_drop (List.mem_of_mem_take hx)⟩
theorem cons_ok {e : Ex} {es : Ar} {d : PyData} {ds : List PyData} {ρ : Nv} {g : DL.G} (h1 : e ρ g = .ok d g) (h2 : es ρ g = .ok ds g) : consD e es ρ g = .ok (d :: ds) g := by
  simp [h1, h2]
theorem comp_pure {α : Type} {fi : Ar} {j : Nat} {e : Ex} (enc : α → PyData) (f : α → PyData) (xs : List α) {ρ : Nv} {g : DL.G} (hi : fi ρ g = .ok (xs.map enc) g) (hl : xs.length ≤ 1000) (h : ∀ x ∈ xs, e ((ρ.set j .no).set j (.sh (enc x))) g = .ok (f x) g) : shareO (lcO fi [j] (nameT j) yesT e) ρ g = .ok (.list (xs.map f)) g := by
  have c := compD_pure (t := nameT j) (cond := yesT) (elt := e) enc (fun _ => true) f xs (ρ.set j .no) g fun x hx => ⟨_, rfl, rfl, fun _ => h x hx⟩
  rw [List.filter_eq_self.mpr fun _ _ => rfl] at c
  have hb : xs.length ≤ 1000000 := by omega
  simp [hi, hb, big, c]
theorem op_ok {o : PyData → PyData → Option PyData} {e1 e2 : Ex} {a b d : PyData} {ρ : Nv} {g : DL.G} (h1 : e1 ρ g = .ok a g) (h2 : e2 ρ g = .ok b g) (h3 : o a b = some d) : opD o e1 e2 ρ g = .ok d g := by
  simp [h1, h2, h3]
theorem cut_lo (ds : List PyData) (k : Nat) (h : k ≤ ds.length) : cutP ds none (some (k : Int)) = ds.take k := by
  unfold cutP
  rw [HT.sIx_none, HT.sIx_nat, Nat.min_eq_left h]
  simp
theorem cut_hi (ds : List PyData) (k : Nat) (h : k ≤ ds.length) : cutP ds (some (k : Int)) none = ds.drop k := by
  unfold cutP
  rw [HT.sIx_none, HT.sIx_nat, Nat.min_eq_left h]
  rw [List.take_of_length_le (by rw [List.length_drop]; omega)]

theorem un_ok {o : PyData → Option PyData} {e : Ex} {a d : PyData} {ρ : Nv} {g : DL.G} (h1 : e ρ g = .ok a g) (h3 : o a = some d) : unD o e ρ g = .ok d g := by
  simp [h1, h3]
theorem bool_ok {e : Ex} {b : Bool} {ρ : Nv} {g : DL.G} (h : e ρ g = .ok (.bool b) g) : boolD e ρ g = .ok b g := by
  simp [h]
theorem tup_ok {es : Ar} {ds : List PyData} {ρ : Nv} {g : DL.G} (h : es ρ g = .ok ds g) (hl : ds.length ≤ 1000) : tupD es ρ g = .ok (.tuple ds) g := by
  simp [h, hl]
theorem le_cmp (a b : Int) : cmpD (fun i j => decide (i ≤ j)) (.int a) (.int b) = some (.bool (decide (a ≤ b))) := rfl

theorem all_find {α : Type} (f : α → Bool) (l : List α) : (l.find? fun x => !f x) = none → l.all f = true := fun h => by
  rw [List.all_eq_true]
  intro x hx
  have := List.find?_eq_none.mp h x hx
  simpa using this
theorem set_ok {i : Nat} {e : Ex} {d : PyData} {ρ : Nv} {g g' : DL.G} (h : e ρ g = .ok d g') : setS i e ρ g = .nx (ρ.set i (.sh d)) g' := by
  unfold setS stE
  rw [h]
theorem shut_eq {i : Nat} {b : Sm} {ds : List PyData} {ρ : Nv} {g : DL.G} (h : ρ[i]? = some (.ow (.lst ds))) : shutS i b ρ g = b (ρ.set i (.sh (.list ds))) g := by
  unfold shutS
  rw [h]
theorem fill_one (d : PyData) (n : Nat) : (List.replicate n [d]).flatten = List.replicate n d := by
  induction n with
  | zero => rfl
  | succ n ih => rw [List.replicate_succ, List.flatten_cons, ih]; rfl
theorem mul_list (d : PyData) (n : Nat) (hn : n ≤ 1000) : mulD (.list [d]) (.int (n : Int)) = some (.list (List.replicate n d)) := by
  show (if -1000000 ≤ (n : Int) ∧ (n : Int) ≤ 1000000 ∧ [d].length * ((n : Int)).toNat ≤ big then some (PyData.list (List.replicate ((n : Int)).toNat [d]).flatten) else none) = _
  rw [if_pos ⟨by omega, by omega, by show 1 * ((n : Int)).toNat ≤ 1000000; omega⟩, show ((n : Int)).toNat = n by omega, fill_one]
theorem mul_tup (d : PyData) (n : Nat) (h1 : 1 ≤ n) (hn : n ≤ 1000) : mulD (.tuple [d]) (.int (n : Int)) = some (.tuple (List.replicate n d)) := by
  show (if (n : Int) = 1 then some (PyData.tuple [d]) else if [d] ≠ [] ∧ 2 ≤ (n : Int) ∧ (n : Int) ≤ 1000 ∧ [d].length ≤ 1000 then some (PyData.tuple (List.replicate ((n : Int)).toNat [d]).flatten) else none) = _
  by_cases h : n = 1
  · subst h; rfl
  · rw [if_neg (by omega), if_pos ⟨by simp, by omega, by omega, by show 1 ≤ 1000; omega⟩, show ((n : Int)).toNat = n by omega, fill_one]
theorem mul_ex {e1 e2 : Ex} {d : PyData} {n : Nat} {ρ : Nv} {g : DL.G} (h1 : e1 ρ g = .ok (.list [d]) g) (h2 : e2 ρ g = .ok (.int (n : Int)) g) (hn : n ≤ 1000) : opD mulD e1 e2 ρ g = .ok (.list (List.replicate n d)) g := op_ok h1 h2 (mul_list d n hn)
theorem addT (a b : List PyData) (h : a.length + b.length ≤ 1000000) : addD (.tuple a) (.tuple b) = some (.tuple (a ++ b)) := by
  exact if_pos h
theorem addL (a b : List PyData) (h : a.length + b.length ≤ 1000000) : addD (.list a) (.list b) = some (.list (a ++ b)) := by
  exact if_pos h
theorem lst_ok {es : Ar} {ds : List PyData} {ρ : Nv} {g : DL.G} (h : es ρ g = .ok ds g) (hl : ds.length ≤ 1000) : lstO es ρ g = .ok (.lst ds) g := by
  simp [h, hl]
theorem share_ok {f : Ow} {ds : List PyData} {ρ : Nv} {g : DL.G} (h : f ρ g = .ok (.lst ds) g) : shareO f ρ g = .ok (.list ds) g := by
  simp [h]
abbrev strD (s : String) : PyData := .str (PySem.Str.ofString s)
theorem drawM {ms : List Int} {g : G} (hg : Dr ms g) {n : Int} (hn : 0 < n) : ∃ (r : Int) (g' : G), 0 ≤ r % n ∧ r % n < n ∧ m_law_draw [] g = .ok (.int r) g' ∧ Dr ms g' := by
  obtain ⟨r, g', h, hg'⟩ := draw_any hg
  exact ⟨r, g', (md_bd hn).1, (md_bd hn).2, h, hg'⟩

/-! general: statements and expressions step by step -/
section
theorem seq_rt {a b : Sm} {ρ : Nv} {g g1 : DL.G} {d : PyData} (h : a ρ g = .rt d g1) : seqS a b ρ g = .rt d g1 := by unfold seqS; rw [h]
theorem fn_rt {n : Nat} {b : Sm} {ds : List PyData} {d : PyData} {g g1 : DL.G} (h : b (ds.map Sl.sh ++ List.replicate n .no) g = .rt d g1) : fnD n false b ds g = .ok d g1 := by
  unfold fnD
  show (match b (ds.map Sl.sh ++ List.replicate n .no) g with | .nx _ g1 => R.ok PyData.none g1 | .rt d g1 => .ok d g1 | .ex k _ g1 => .ex k g1 | _ => .bad) = _
  rw [h]
theorem fnG_rt {n : Nat} {b : Sm} {ds : List PyData} {d : PyData} {g g1 : DL.G} (h : b (.dr :: ds.map Sl.sh ++ List.replicate n .no) g = .rt d g1) : fnD n true b ds g = .ok d g1 := by
  unfold fnD
  rw [if_pos rfl, h]
theorem share2 {f : Ow} {ds : List PyData} {ρ : Nv} {g g1 : DL.G} (h : f ρ g = .ok (.lst ds) g1) : shareO f ρ g = .ok (.list ds) g1 := by
  simp [h]
theorem un2 {o : PyData → Option PyData} {e : Ex} {a d : PyData} {ρ : Nv} {g g1 : DL.G} (h1 : e ρ g = .ok a g1) (h3 : o a = some d) : unD o e ρ g = .ok d g1 := by
  simp [h1, h3]
theorem ret_ok {e : Ex} {d : PyData} {ρ : Nv} {g g1 : DL.G} (h : e ρ g = .ok d g1) : retS e ρ g = .rt d g1 := by
  rw [retS_ap, h]
theorem setO_ok {i : Nat} {f : Ow} {ds : List PyData} {ρ : Nv} {g g1 : DL.G} (h : f ρ g = .ok (.lst ds) g1) : setOS i f ρ g = .nx (ρ.set i (.ow (.lst ds))) g1 := by
  unfold setOS
  rw [h]
  rfl
theorem items_ok {e : Ex} {ds : List PyData} {ρ : Nv} {g g1 : DL.G} (h : e ρ g = .ok (.list ds) g1) : itemsD e ρ g = .ok ds g1 := by
  simp [h]
theorem items_tup {e : Ex} {ds : List PyData} {ρ : Nv} {g g1 : DL.G} (h : e ρ g = .ok (.tuple ds) g1) : itemsD e ρ g = .ok ds g1 := by
  simp [h]
theorem drawE {ms : List Int} {g : DL.G} (hg : Dr ms g) {ρ : Nv} {i : Nat} (hi : ρ[i]? = some .dr) {e : Ex} {m : Nat} (hm : 0 < m) (he : ∀ g', e ρ g' = .ok (.int (m : Int)) g') : ∃ (r : Nat) (g' : DL.G), r < m ∧ Dr ms g' ∧ opD modD (callG 1 i m_law_draw nilD) e ρ g = .ok (.int (r : Int)) g' := by
  obtain ⟨d, g1, d0, d1, hd, hg1⟩ := drawM hg (n := (m : Int)) (by omega)
  refine ⟨(d % (m : Int)).toNat, g1, by omega, hg1, ?_⟩
  have e1 := he g1
  have m1 := md (r := d) (n := (m : Int)) (by omega)
  rw [show (((d % (m : Int)).toNat : Nat) : Int) = d % (m : Int) by omega]
  generalize d % (m : Int) = z at m1 ⊢
  generalize modD = M at m1 ⊢
  simp [hi, hd, e1, m1]
theorem eqI (a b : Int) : eqD (.int a) (.int b) = some (.bool (decide (a = b))) := by
  simp [eqD]
theorem if_seq {c : Te} {s t : Sm} {ρ : Nv} {g g1 : DL.G} {b : Bool} (h : c ρ g = .ok b g1) : ifS c s t ρ g = if b = true then s ρ g1 else t ρ g1 := by
  cases b with
  | true => exact if_yes h
  | false => exact if_no h
theorem and_ok {a b : Te} {ρ : Nv} {g g1 : DL.G} (h : a ρ g = .ok true g1) : andT a b ρ g = b ρ g1 := by
  unfold andT; rw [h]; rfl
theorem and_no {a b : Te} {ρ : Nv} {g g1 : DL.G} (h : a ρ g = .ok false g1) : andT a b ρ g = .ok false g1 := by
  unfold andT; rw [h]; rfl
theorem vv {i : Nat} {ρ : Nv} {d : PyData} {g : DL.G} (h : ρ[i]? = some (.sh d)) : varD i ρ g = .ok d g := by simp [h]
theorem bad_eq {a b : Ex} {x y : Int} {ρ : Nv} {g g1 g2 : DL.G} (h1 : a ρ g = .ok (.int x) g1) (h2 : b ρ g1 = .ok (.int y) g2) : boolD (opD eqD a b) ρ g = .ok (decide (x = y)) g2 := by
  have := eqI x y
  generalize eqD = M at this ⊢
  simp [h1, h2, this]
theorem gt_ok {a b : Ex} {x y : Int} {ρ : Nv} {g g1 g2 : DL.G} (h1 : a ρ g = .ok (.int x) g1) (h2 : b ρ g1 = .ok (.int y) g2) : boolD (opD (cmpD fun i j => decide (j < i)) a b) ρ g = .ok (decide (y < x)) g2 := by
  simp [h1, h2]
theorem op2 {o : PyData → PyData → Option PyData} {e1 e2 : Ex} {a b d : PyData} {ρ : Nv} {g g1 g2 : DL.G} (h1 : e1 ρ g = .ok a g1) (h2 : e2 ρ g1 = .ok b g2) (h3 : o a b = some d) : opD o e1 e2 ρ g = .ok d g2 := by
  simp [h1, h2, h3]
theorem cons2 {e : Ex} {es : Ar} {d : PyData} {ds : List PyData} {ρ : Nv} {g g1 g2 : DL.G} (h1 : e ρ g = .ok d g1) (h2 : es ρ g1 = .ok ds g2) : consD e es ρ g = .ok (d :: ds) g2 := by
  simp [h1, h2]
theorem tup2 {es : Ar} {ds : List PyData} {ρ : Nv} {g g1 : DL.G} (h : es ρ g = .ok ds g1) (hl : ds.length ≤ 1000) : tupD es ρ g = .ok (.tuple ds) g1 := by
  simp [h, hl]
theorem addI (a b : Int) : addD (.int a) (.int b) = some (.int (a + b)) := rfl
theorem subI (a b : Int) : subD (.int a) (.int b) = some (.int (a - b)) := rfl
theorem if_d {c : Te} {a b : Ex} {ρ : Nv} {g g1 : DL.G} {k : Bool} (h : c ρ g = .ok k g1) : ifD c a b ρ g = if k = true then a ρ g1 else b ρ g1 := by
  unfold ifD; rw [h]; rfl
theorem call_ok {n : Nat} {m : Fn} {fa : Ar} {ds : List PyData} {d : PyData} {ρ : Nv} {g g1 g2 : DL.G} (h : fa ρ g = .ok ds g1) (hl : ds.length = n) (k : m ds g1 = .ok d g2) : callD n m fa ρ g = .ok d g2 := by
  simp [h, hl, k]
theorem app_ok {i : Nat} {e : Ex} {d : PyData} {ds : List PyData} {ρ : Nv} {g g1 : DL.G} (h : e ρ g = .ok d g1) (hi : ρ[i]? = some (.ow (.lst ds))) (hl : ds.length < 1000000) : appS i e ρ g = .nx (ρ.set i (.ow (.lst (ds ++ [d])))) g1 := by
  unfold appS
  rw [h]
  simp only [hi]
  rw [if_pos (show ds.length < big from hl)]
theorem lc_ok {fi : Ar} {own : List Nat} {tg : Tg} {cond : Te} {elt : Ex} {ds xs : List PyData} {ρ : Nv} {g g1 g2 : DL.G} (h : fi ρ g = .ok ds g1) (hl : ds.length ≤ 1000000) (k : compD tg cond elt ds (wipeD ρ own) g1 = .ok xs g2) : lcO fi own tg cond elt ρ g = .ok (.lst xs) g2 := by
  unfold lcO
  rw [h]
  show (if ds.length ≤ big then _ else _) = _
  rw [if_pos (show ds.length ≤ big from hl), k]
  rfl
theorem range_ok {e : Ex} {n : Nat} {ρ : Nv} {g g1 : DL.G} (h : e ρ g = .ok (.int (n : Int)) g1) (hl : n ≤ 1000000) : rangeD e ρ g = .ok ((List.range n).map fun (k : Nat) => PyData.int (0 + (k : Int))) g1 := by
  rw [← upFrom_map]
  have hb : (n : Int) ≤ 1000000 ∧ -1000000 ≤ (n : Int) := by omega
  simp [h, big, hb]
theorem peek_ok {i : Nat} {e : Ex} {ds : List PyData} {z : Int} {ρ : Nv} {g g1 : DL.G} (hi : ρ[i]? = some (.ow (.lst ds))) (h : e (ρ.set i (.sh (.list ds))) g = .ok (.int z) g1) (hn : nob g = true := by first | rfl | assumption | (apply Dr.nob; assumption)) (hn1 : nob g1 = true := by first | rfl | assumption | (apply Dr.nob; assumption)) : peekD i e ρ g = .ok (.int z) g1 := by
  unfold peekD
  rw [hi]
  have : obD (.lst ds) = some (.list ds) := rfl
  simp only [this, h]
  exact if_pos ⟨rfl, hn, hn1⟩
theorem pick_list {ms : List Int} {g : DL.G} (hg : Dr ms g) {ρ : Nv} {i : Nat} (hi : ρ[i]? = some .dr) {e c : Ex} {ds : List PyData} (he : ∀ g, e ρ g = .ok (.list ds) g) (hc : ∀ g, c ρ g = .ok (.int (ds.length : Int)) g) (h0 : ds ≠ []) : ∃ (d : PyData) (g' : DL.G), d ∈ ds ∧ Dr ms g' ∧ opD ixD e (opD modD (callG 1 i m_law_draw nilD) c) ρ g = .ok d g' := by
  obtain ⟨k, g1, hk, hg1, h⟩ := drawE hg hi (List.length_pos_iff.mpr h0) hc
  exact ⟨ds[k], g1, List.getElem_mem hk, hg1, op2 (he g) h (L2.atI_nat (List.getElem?_eq_getElem hk))⟩
theorem lst2 {es : Ar} {ds : List PyData} {ρ : Nv} {g g1 : DL.G} (h : es ρ g = .ok ds g1) (hl : ds.length ≤ 1000) : lstO es ρ g = .ok (.lst ds) g1 := by
  simp [h, hl]
theorem asg_ok {e : Ex} {t : Tg} {d : PyData} {ρ ρ1 : Nv} {g g1 : DL.G} (h : e ρ g = .ok d g1) (k : t d ρ = some ρ1) : asgS e t ρ g = .nx ρ1 g1 := by
  rw [asgS_ap, h]
  simp only [k]
theorem orT_yes {a b : Te} {ρ : Nv} {g g1 : DL.G} (h : a ρ g = .ok true g1) : orT a b ρ g = .ok true g1 := by
  unfold orT; rw [h]; rfl
theorem orT_no {a b : Te} {ρ : Nv} {g g1 : DL.G} (h : a ρ g = .ok false g1) : orT a b ρ g = b ρ g1 := by
  unfold orT; rw [h]; rfl
theorem not_call {n : Nat} {m : Fn} {fa : Ar} {ds : List PyData} {b : Bool} {ρ : Nv} {g g1 : DL.G} (h : fa ρ g = .ok ds g) (hl : ds.length = n) (k : m ds g = .ok (.bool b) g1) : notT (truthD (callD n m fa)) ρ g = .ok (!b) g1 := by
  simp [h, hl, k]
theorem comp_one {i : Nat} {cond : Te} {x : PyData} {ρ : Nv} {g : DL.G} (hi : i < ρ.length) (h : cond (ρ.set i (.sh x)) g = .ok true g) : compD (nameT i) cond (varD i) [x] ρ g = .ok [x] g :=
  compD_pure (t := nameT i) (cond := cond) (elt := varD i) id (fun _ => true) id [x] ρ g fun y hy => ⟨_, rfl, by rw [List.mem_singleton.mp hy]; exact h, fun _ => vv (List.getElem?_set_self hi)⟩
theorem lc_truth {fi : Ar} {own : List Nat} {tg : Tg} {cond : Te} {elt : Ex} {ds xs : List PyData} {ρ : Nv} {g g1 g2 : DL.G} (h : fi ρ g = .ok ds g1) (hl : ds.length ≤ 1000000) (k : compD tg cond elt ds (wipeD ρ own) g1 = .ok xs g2) : truthD (shareO (lcO fi own tg cond elt)) ρ g = .ok (!xs.isEmpty) g2 := by
  have := share2 (lc_ok (own := own) h hl k)
  unfold truthD
  rw [this]
  rfl
theorem seq_ex {a b : Sm} {ρ ρ1 : Nv} {g g1 : DL.G} {n : Nat} (h : a ρ g = .ex n ρ1 g1) : seqS a b ρ g = .ex n ρ1 g1 := by unfold seqS; rw [h]
theorem fn_ex {k n : Nat} {b : Sm} {ds : List PyData} {ρ1 : Nv} {g g1 : DL.G} (h : b (ds.map Sl.sh ++ List.replicate k .no) g = .ex n ρ1 g1) : fnD k false b ds g = .ex n g1 := by
  unfold fnD
  rw [if_neg (by decide), h]
theorem drop_ok {e : Ex} {d : PyData} {ρ : Nv} {g g1 : DL.G} (h : e ρ g = .ok d g1) : dropS e ρ g = .nx ρ g1 := by
  rw [dropS_ap, h]
theorem eq_no {e1 e2 : Ex} {d : PyData} {ρ : Nv} {g : DL.G} (h1 : e1 ρ g = .ok d g) (h2 : e2 ρ g = .ok d g) (hN : Nar 7 d) : notT (truthD (callD 2 m_law_equal (consD e1 (consD e2 nilD)))) ρ g = .ok false g :=
  not_call (ds := [d, d]) (b := true) (cons2 h1 (cons2 h2 (es := nilD) (ds := []) rfl)) rfl (equal_refl g hN)
theorem skip {c : Te} {s : Sm} {ρ : Nv} {g : DL.G} (h : c ρ g = .ok false g) : ifS c s nextS ρ g = .nx ρ g := (if_no h).trans rfl
theorem names_run {E : Ex} {wd : String} {ρ : Nv} {g : DL.G} (hl : 4 < ρ.length) : ∀ (ss : List String), (∀ s ∈ ss, E (ρ.set 4 (.sh (strD s))) g = .ok (strD wd) g) → ∀ z, ∃ z', forD (nameT 4) (ifS (boolD (opD neD E (constD (strD wd)))) (retS (constD (.bool false))) nextS) (ss.map strD) (ρ.set 4 z) g = .nx (ρ.set 4 z') g
  | [], _, z => ⟨z, rfl⟩
  | s :: ss, h, z => by
    obtain ⟨z', h'⟩ := names_run hl ss (fun t ht => h t (List.mem_cons_of_mem _ ht)) (.sh (strD s))
    refine ⟨z', ?_⟩
    rw [List.map_cons]
    unfold forD
    have n : nameT 4 (strD s) (ρ.set 4 z) = some (ρ.set 4 (.sh (strD s))) := by
      show some ((ρ.set 4 z).set 4 (.sh (strD s))) = _
      rw [List.set_set]
    rw [n]
    have hb : boolD (opD neD E (constD (strD wd))) (ρ.set 4 (.sh (strD s))) g = .ok false g := by
      have e := h s List.mem_cons_self
      have en : neD (strD wd) (strD wd) = some (.bool false) := by simp [neD, eqD]
      generalize strD wd = W at e en ⊢
      generalize neD = M at en ⊢
      simp [e, en]
    simp only [skip hb]
    exact h'
theorem names_for {E : Ex} {wd : String} {ss : List String} {fi : Ar} {ρ : Nv} {g : DL.G} {z : Sl} (hl : 4 < ρ.length) (h4 : ρ[4]? = some z) (hf : fi ρ g = .ok (ss.map strD) g) (h : ∀ s ∈ ss, E (ρ.set 4 (.sh (strD s))) g = .ok (strD wd) g) :
    ∃ z', forS fi (nameT 4) (ifS (boolD (opD neD E (constD (strD wd)))) (retS (constD (.bool false))) nextS) ρ g = .nx (ρ.set 4 z') g := by
  obtain ⟨z', h'⟩ := names_run hl ss h z
  have e : ρ.set 4 z = ρ := by
    obtain ⟨h1, h2⟩ := List.getElem?_eq_some_iff.mp h4
    rw [← h2]
    exact List.set_getElem_self h1
  rw [e] at h'
  exact ⟨z', for_run hf h'⟩
theorem loop_ret {fi : Ar} {t : Tg} {b : Sm} {ds : List PyData} {ρ : Nv} {g : DL.G} {d : PyData} {i : Nat} (hf : fi ρ g = .ok ds g) (h : forD t b ds ρ g = .rt d g ∨ ∃ ρ', forD t b ds ρ g = .nx ρ' g ∧ ρ'[i]? = some (.sh d)) : seqS (forS fi t b) (retS (varD i)) ρ g = .rt d g := by
  rcases h with h | ⟨ρ', h1, h2⟩
  · refine seq_rt ?_
    unfold forS
    rw [hf]
    exact h
  · refine (seq_eq (for_run (g1 := g) hf h1)).trans ?_
    simp [h2]
theorem atLast (l : List PyData) (x : PyData) : L2.atI (l ++ [x]) (-1) = some x := by
  have h : L2.ixN (l ++ [x]).length (-1) = some l.length := by
    unfold L2.ixN
    have hl : (l ++ [x]).length = l.length + 1 := by rw [List.length_append]; rfl
    rw [hl, if_neg (by decide), if_pos (by omega)]
    congr 1
    omega
  unfold L2.atI
  rw [h]
  simp
end

/-! evaluation, rule by rule: nothing is drawn -/
section
variable {ρ ρ1 : Nv} {g : DL.G} {r : SR}
theorem e_const {d : PyData} : constD d ρ g = .ok d g := rfl
theorem e_nil : nilD ρ g = .ok [] g := rfl
theorem e_yes : yesT ρ g = .ok true g := rfl
theorem e_var {i : Nat} {d : PyData} (h : ρ[i]? = some (.sh d)) : varD i ρ g = .ok d g := by simp [h]
theorem e_op {o : PyData → PyData → Option PyData} {a b : Ex} {x y d : PyData} (h1 : a ρ g = .ok x g) (h2 : b ρ g = .ok y g) (h3 : o x y = some d) : opD o a b ρ g = .ok d g := by simp [h1, h2, h3]
theorem e_un {o : PyData → Option PyData} {a : Ex} {x d : PyData} (h1 : a ρ g = .ok x g) (h3 : o x = some d) : unD o a ρ g = .ok d g := by simp [h1, h3]
theorem e_cons {a : Ex} {es : Ar} {d : PyData} {ds : List PyData} (h1 : a ρ g = .ok d g) (h2 : es ρ g = .ok ds g) : consD a es ρ g = .ok (d :: ds) g := by simp [h1, h2]
theorem e_tup {es : Ar} {ds : List PyData} (h : es ρ g = .ok ds g) (hl : decide (ds.length ≤ 1000) = true) : tupD es ρ g = .ok (.tuple ds) g := by simp [h, of_decide_eq_true hl]
theorem e_lst {es : Ar} {ds : List PyData} (h : es ρ g = .ok ds g) (hl : decide (ds.length ≤ 1000) = true) : lstO es ρ g = .ok (.lst ds) g := by simp [h, of_decide_eq_true hl]
theorem e_call {n : Nat} {m : Fn} {fa : Ar} {ds : List PyData} {d : PyData} (h : fa ρ g = .ok ds g) (hl : ds.length = n) (k : m ds g = .ok d g) : callD n m fa ρ g = .ok d g := by simp [h, hl, k]
theorem e_share {f : Ow} {ds : List PyData} (h : f ρ g = .ok (.lst ds) g) : shareO f ρ g = .ok (.list ds) g := by simp [h]
theorem e_ixO {i : Nat} {f : Ex} {ds : List PyData} {k : Int} {d : PyData} (hi : ρ[i]? = some (.ow (.lst ds))) (h : f ρ g = .ok (.int k) g) (h3 : L2.atI ds k = some d) : ixO i f ρ g = .ok d g := by
  unfold ixO
  simp [hi, h, h3]
theorem e_truth {a : Ex} {d : PyData} {b : Bool} (h : a ρ g = .ok d g) (k : truD d = some b) : truthD a ρ g = .ok b g := by
  unfold truthD
  rw [h]
  show ofO (truD d) g = _
  rw [k]
  rfl
theorem e_bool {a : Ex} {b : Bool} (h : a ρ g = .ok (.bool b) g) : boolD a ρ g = .ok b g := by simp [h]
theorem e_not {a : Te} {b : Bool} (h : a ρ g = .ok b g) : notT a ρ g = .ok (!b) g := by simp [h]
theorem e_and {a b : Te} {x y : Bool} (h1 : a ρ g = .ok x g) (h2 : x = true → b ρ g = .ok y g) : andT a b ρ g = .ok (x && y) g := by
  cases x with
  | true => simp [h1, h2 rfl]
  | false => simp [h1]
theorem e_or {a b : Te} {x y : Bool} (h1 : a ρ g = .ok x g) (h2 : x = false → b ρ g = .ok y g) : orT a b ρ g = .ok (x || y) g := by
  cases x with
  | false => simp [h1, h2 rfl]
  | true => simp [h1]
theorem e_if {c : Te} {a b : Ex} {k : Bool} {d : PyData} (h : c ρ g = .ok k g) (h1 : k = true → a ρ g = .ok d g) (h2 : k = false → b ρ g = .ok d g) : ifD c a b ρ g = .ok d g := by
  cases k with
  | true => simp [h, h1 rfl]
  | false => simp [h, h2 rfl]
theorem e_items {a : Ex} {ds : List PyData} (h : a ρ g = .ok (.list ds) g) : itemsD a ρ g = .ok ds g := by simp [h]
theorem e_itemsT {a : Ex} {ds : List PyData} (h : a ρ g = .ok (.tuple ds) g) : itemsD a ρ g = .ok ds g := by simp [h]
theorem e_range {a : Ex} {n : Nat} (h : a ρ g = .ok (.int (n : Int)) g) (hl : n ≤ 1000000) : rangeD a ρ g = .ok ((List.range n).map fun (k : Nat) => PyData.int (0 + (k : Int))) g := by
  rw [← upFrom_map]
  have hb : (n : Int) ≤ 1000000 ∧ -1000000 ≤ (n : Int) := by omega
  simp [h, big, hb]
theorem e_peek {i : Nat} {e : Ex} {b : Ob} {d : PyData} {z : Int} (hi : ρ[i]? = some (.ow b)) (hd : obD b = some d) (h : e (ρ.set i (.sh d)) g = .ok (.int z) g) (hn : nob g = true := by first | rfl | assumption | (apply Dr.nob; assumption)) : peekD i e ρ g = .ok (.int z) g := by
  unfold peekD
  rw [hi]
  simp only [hd, h]
  exact if_pos ⟨rfl, hn, hn⟩
theorem neI (a b : Int) : neD (.int a) (.int b) = some (.bool (!decide (a = b))) := by
  simp [neD, eqD]
theorem s_set {i : Nat} {e : Ex} {d : PyData} {b : Sm} (h : e ρ g = .ok d g) (k : b (ρ.set i (.sh d)) g = r) : seqS (setS i e) b ρ g = r := by
  unfold seqS; rw [setS_ap, h]; exact k
theorem s_set1 {i : Nat} {e : Ex} {d : PyData} (h : e ρ g = .ok d g) (k : ρ.set i (.sh d) = ρ1) : setS i e ρ g = .nx ρ1 g := by
  subst k
  rw [setS_ap, h]
theorem s_drop {e : Ex} {d : PyData} {b : Sm} (h : e ρ g = .ok d g) (k : b ρ g = r) : seqS (dropS e) b ρ g = r := by
  unfold seqS; rw [dropS_ap, h]; exact k
theorem s_setO {i : Nat} {f : Ow} {ds : List PyData} {b : Sm} (h : f ρ g = .ok (.lst ds) g) (k : b (ρ.set i (.ow (.lst ds))) g = r) : seqS (setOS i f) b ρ g = r := by
  unfold seqS setOS; rw [h]; exact k
theorem s_shut {i : Nat} {ds : List PyData} {b : Sm} (h : ρ[i]? = some (.ow (.lst ds))) (k : b (ρ.set i (.sh (.list ds))) g = r) : shutS i b ρ g = r := by
  unfold shutS; rw [h]; exact k
theorem s_ret {e : Ex} {d : PyData} (h : e ρ g = .ok d g) : retS e ρ g = .rt d g := by rw [retS_ap, h]
theorem s_seq {a b : Sm} (h : a ρ g = .nx ρ1 g) (k : b ρ1 g = r) : seqS a b ρ g = r := by
  unfold seqS; rw [h]; exact k
theorem s_seqR {a b : Sm} {d : PyData} (h : a ρ g = .rt d g) : seqS a b ρ g = .rt d g := by
  unfold seqS; rw [h]
theorem s_if {c : Te} {s t : Sm} {b : Bool} (h : c ρ g = .ok b g) (h1 : b = true → s ρ g = r) (h2 : b = false → t ρ g = r) : ifS c s t ρ g = r := by
  cases b with
  | true => exact (if_yes h).trans (h1 rfl)
  | false => exact (if_no h).trans (h2 rfl)
theorem s_for {fi : Ar} {t : Tg} {b : Sm} {ds : List PyData} (h : fi ρ g = .ok ds g) (k : forD t b ds ρ g = .nx ρ1 g) : forS fi t b ρ g = .nx ρ1 g := for_run h k
theorem s_app1 {i : Nat} {e : Ex} {d : PyData} {ds : List PyData} (hi : ρ[i]? = some (.ow (.lst ds))) (h : e ρ g = .ok d g) (hl : ds.length < 1000000) (k : ρ.set i (.ow (.lst (ds ++ [d]))) = ρ1) : appS i e ρ g = .nx ρ1 g := by
  unfold appS
  rw [h]
  simp only [hi]
  subst k
  rw [if_pos (show ds.length < big from hl)]
theorem s_asg {e : Ex} {t : Tg} {d : PyData} (h : e ρ g = .ok d g) (k : t d ρ = some ρ1) : asgS e t ρ g = .nx ρ1 g := by
  rw [asgS_ap, h]
  simp only [k]
theorem s_setIx {i : Nat} {fk fv : Ex} {d : PyData} {k : Int} {ds : List PyData} {j : Nat} (h : fv ρ g = .ok d g) (hk : fk ρ g = .ok (.int k) g) (hi : ρ[i]? = some (.ow (.lst ds))) (hj : L2.ixN ds.length k = some j) (q : ρ.set i (.ow (.lst (ds.set j d))) = ρ1) : setIxS i fk fv ρ g = .nx ρ1 g := by
  subst q
  unfold setIxS stE
  rw [h]
  simp only [hk, hi, hj]
theorem f_rt {n : Nat} {b : Sm} {ds : List PyData} {d : PyData} (h : b (ds.map Sl.sh ++ List.replicate n .no) g = .rt d g) : fnD n false b ds g = .ok d g := by
  unfold fnD
  rw [if_neg (by decide), h]
/-- a comprehension over what is mapped, nothing left out -/
theorem e_comp {α : Type} {fi : Ar} {own : List Nat} {t : Tg} {e : Ex} (enc : α → PyData) (f : α → PyData) (xs : List α) (hi : fi ρ g = .ok (xs.map enc) g) (hl : xs.length ≤ 1000000) (h : ∀ x ∈ xs, ∃ ρ1, t (enc x) (wipeD ρ own) = some ρ1 ∧ e ρ1 g = .ok (f x) g) : lcO fi own t yesT e ρ g = .ok (.lst (xs.map f)) g := by
  have c := compD_pure (t := t) (cond := yesT) (elt := e) enc (fun _ => true) f xs (wipeD ρ own) g fun x hx => by
    obtain ⟨ρ1, h1, h2⟩ := h x hx
    exact ⟨ρ1, h1, rfl, fun _ => h2⟩
  rw [List.filter_eq_self.mpr fun _ _ => rfl] at c
  unfold lcO
  rw [hi]
  show (if (xs.map enc).length ≤ big then _ else _) = _
  rw [List.length_map, if_pos (show xs.length ≤ big from hl), c]
  rfl
/-- with a test -/
theorem e_compF {α : Type} {fi : Ar} {own : List Nat} {t : Tg} {c : Te} {e : Ex} (enc : α → PyData) (p : α → Bool) (f : α → PyData) (xs : List α) (hi : fi ρ g = .ok (xs.map enc) g) (hl : xs.length ≤ 1000000) (h : ∀ x ∈ xs, ∃ ρ1, t (enc x) (wipeD ρ own) = some ρ1 ∧ c ρ1 g = .ok (p x) g ∧ (p x = true → e ρ1 g = .ok (f x) g)) : lcO fi own t c e ρ g = .ok (.lst ((xs.filter p).map f)) g := by
  have cc := compD_pure (t := t) (cond := c) (elt := e) enc p f xs (wipeD ρ own) g h
  unfold lcO
  rw [hi]
  show (if (xs.map enc).length ≤ big then _ else _) = _
  rw [List.length_map, if_pos (show xs.length ≤ big from hl), cc]
  rfl
end

section
/-! ### more steps, for every law -/
theorem e_comp0 {ρ : Nv} {g : DL.G} {α : Type} {fi : Ar} {own : List Nat} {t : Tg} {c : Te} {e : Ex} (enc : α → PyData) (xs : List α) (hi : fi ρ g = .ok (xs.map enc) g) (hl : xs.length ≤ 1000000) (h : ∀ x ∈ xs, ∃ ρ1, t (enc x) (wipeD ρ own) = some ρ1 ∧ c ρ1 g = .ok false g) : lcO fi own t c e ρ g = .ok (.lst []) g := by
  have := e_compF (e := e) enc (fun _ => false) enc xs hi hl fun x hx => by
    obtain ⟨ρ1, h1, h2⟩ := h x hx
    exact ⟨ρ1, h1, h2, fun z => by cases z⟩
  rw [show xs.filter (fun _ => false) = [] from List.filter_eq_nil_iff.mpr fun _ _ => by simp] at this
  exact this
theorem s_skip {ρ : Nv} {g : DL.G} {c : Te} {s : Sm} (h : c ρ g = .ok false g) : ifS c s nextS ρ g = .nx ρ g := (if_no h).trans rfl
theorem f_nx {n : Nat} {b : Sm} {ds : List PyData} {g : DL.G} {ρ1 : Nv} (h : b (ds.map Sl.sh ++ List.replicate n .no) g = .nx ρ1 g) : fnD n false b ds g = .ok .none g := by
  unfold fnD
  rw [if_neg (by decide), h]
theorem e_andV {ρ : Nv} {g : DL.G} {a b : Ex} {x y : Bool} (h1 : a ρ g = .ok (.bool x) g) (h2 : x = true → b ρ g = .ok (.bool y) g) : andV a b ρ g = .ok (.bool (x && y)) g := by
  cases x with
  | true => simp [h1, h2 rfl]
  | false => simp [h1]
theorem e_peekT {ρ : Nv} {g : DL.G} {i : Nat} {f : Te} {b : Ob} {d : PyData} {x : Bool} (hi : ρ[i]? = some (.ow b)) (hd : obD b = some d) (h : f (ρ.set i (.sh d)) g = .ok x g) (hn : nob g = true := by first | rfl | assumption | (apply Dr.nob; assumption)) : peekT i f ρ g = .ok x g := by
  unfold peekT
  rw [hi]
  simp only [hd, h]
  exact if_pos ⟨hn, hn⟩
theorem e_chain {ρ : Nv} {g : DL.G} {o o' : PyData → PyData → Option PyData} {a b c : Ex} {x y z : PyData} {k k' : Bool} (h1 : a ρ g = .ok x g) (h2 : b ρ g = .ok y g) (h3 : o x y = some (.bool k)) (h4 : c ρ g = .ok z g) (h5 : o' y z = some (.bool k')) : chainD o o' a b c ρ g = .ok (.bool (k && k')) g := by
  unfold chainD
  rw [h1]
  simp only [R.bind_ok]
  rw [h2]
  simp only [R.bind_ok, h3, ofO_some]
  cases k with
  | true => simp only; rw [h4]; simp only [R.bind_ok, h5, ofO_some, Bool.true_and]
  | false => simp
theorem e_itemsA {ρ : Nv} {g : DL.G} {a : Ex} {ds : List PyData} (h : a ρ g = .ok (.list ds) g) : itemsA a ρ g = .ok ds g := by simp [h]
theorem e_itemsAT {ρ : Nv} {g : DL.G} {a : Ex} {ds : List PyData} (h : a ρ g = .ok (.tuple ds) g) : itemsA a ρ g = .ok ds g := by simp [h]
theorem e_itemsK {ρ : Nv} {g : DL.G} {a : Ex} {kvs : List (PyData × PyData)} (h : a ρ g = .ok (ndD kvs) g) : itemsA a ρ g = .ok (kvs.map (·.1)) g := by
  unfold itemsA
  rw [h]
  rfl
theorem e_ixA {ρ : Nv} {g : DL.G} {a b : Ex} {x y d : PyData} (h1 : a ρ g = .ok x g) (h2 : b ρ g = .ok y g) (hx : (∃ ds, x = .list ds) ∨ ∃ ds, x = .tuple ds) (h3 : ixD x y = some d) : opD ixA a b ρ g = .ok d g := by
  refine e_op h1 h2 ?_
  rcases hx with ⟨ds, rfl⟩ | ⟨ds, rfl⟩
  · exact h3
  · exact h3
theorem e_ixL {ρ : Nv} {g : DL.G} {a b : Ex} {ds : List PyData} {y d : PyData} (h1 : a ρ g = .ok (.list ds) g) (h2 : b ρ g = .ok y g) (h3 : ixD (.list ds) y = some d) : opD ixA a b ρ g = .ok d g := e_op h1 h2 h3
theorem e_ixT {ρ : Nv} {g : DL.G} {a b : Ex} {ds : List PyData} {y d : PyData} (h1 : a ρ g = .ok (.tuple ds) g) (h2 : b ρ g = .ok y g) (h3 : ixD (.tuple ds) y = some d) : opD ixA a b ρ g = .ok d g := e_op h1 h2 h3
theorem e_ixN {ρ : Nv} {g : DL.G} {a b : Ex} {kvs : List (PyData × PyData)} {y d : PyData} (h1 : a ρ g = .ok (ndD kvs) g) (h2 : b ρ g = .ok y g) (h3 : lookN kvs y = some d) : opD ixA a b ρ g = .ok d g := e_op h1 h2 h3
theorem e_inN {ρ : Nv} {g : DL.G} {a b : Ex} {kvs : List (PyData × PyData)} {y : PyData} {k : Bool} (h1 : a ρ g = .ok y g) (h2 : b ρ g = .ok (ndD kvs) g) (h3 : hasN kvs y = some k) : opD inA a b ρ g = .ok (.bool k) g := by
  refine e_op h1 h2 ?_
  show (hasN kvs y).map PyData.bool = _
  rw [h3]
  rfl
theorem e_notInN {ρ : Nv} {g : DL.G} {a b : Ex} {kvs : List (PyData × PyData)} {y : PyData} {k : Bool} (h1 : a ρ g = .ok y g) (h2 : b ρ g = .ok (ndD kvs) g) (h3 : hasN kvs y = some k) : opD notInA a b ρ g = .ok (.bool (!k)) g := by
  refine e_op h1 h2 ?_
  have : inA y (ndD kvs) = some (.bool k) := by
    show (hasN kvs y).map PyData.bool = _
    rw [h3]
    rfl
  unfold notInA
  rw [this]
theorem e_inL {ρ : Nv} {g : DL.G} {a b : Ex} {ds : List PyData} {y d : PyData} (h1 : a ρ g = .ok y g) (h2 : b ρ g = .ok (.list ds) g) (h3 : inD y (.list ds) = some d) : opD inA a b ρ g = .ok d g := e_op h1 h2 h3
theorem e_notInL {ρ : Nv} {g : DL.G} {a b : Ex} {ds : List PyData} {y : PyData} {k : Bool} (h1 : a ρ g = .ok y g) (h2 : b ρ g = .ok (.list ds) g) (h3 : inD y (.list ds) = some (.bool k)) : opD notInA a b ρ g = .ok (.bool (!k)) g := by
  refine e_op h1 h2 ?_
  have : inA y (.list ds) = some (.bool k) := h3
  unfold notInA
  rw [this]
theorem e_getN {ρ : Nv} {g : DL.G} {a b c : Ex} {kvs : List (PyData × PyData)} {y z : PyData} {k : NestedKey} (h1 : a ρ g = .ok (ndD kvs) g) (h2 : b ρ g = .ok y g) (h3 : c ρ g = .ok z g) (hk : nkT y = some k) : getN a b c ρ g = .ok ((lookN kvs y).getD z) g := by
  unfold getN
  rw [h1]
  show (b ρ g).bind _ = _
  rw [h2]
  simp only [R.bind_ok]
  rw [h3]
  simp only [R.bind_ok, hk]
theorem s_keyN {ρ : Nv} {g : DL.G} {i : Nat} {fk fv : Ex} {z d : PyData} {k : NestedKey} {kvs : List (PyData × PyData)} (h1 : fv ρ g = .ok d g) (h2 : fk ρ g = .ok z g) (hi : ρ[i]? = some (.ow (.nd kvs))) (hk : nkT z = some k) (hl : kvs.length < 1000000) : keySN i fk fv ρ g = .nx (ρ.set i (.ow (.nd (putND kvs z d k)))) g := by
  unfold keySN stE
  simp only [h1, h2, hi, hk]
  exact if_pos hl
theorem s_delN {ρ : Nv} {g : DL.G} {i : Nat} {fk : Ex} {z : PyData} {k : NestedKey} {kvs : List (PyData × PyData)} (h2 : fk ρ g = .ok z g) (hi : ρ[i]? = some (.ow (.nd kvs))) (hk : nkT z = some k) (hl : (kvs.any fun kv => decide (nkD kv.1 = some k)) = true) : delSN i fk ρ g = .nx (ρ.set i (.ow (.nd (delND kvs k)))) g := by
  unfold delSN
  simp only [h2, hi, hk]
  exact if_pos hl
theorem e_peekNT {ρ : Nv} {g : DL.G} {i : Nat} {f : Te} {kvs : List (PyData × PyData)} {x : Bool} (hi : ρ[i]? = some (.ow (.nd kvs))) (h : f (ρ.set i (.sh (ndD kvs))) g = .ok x g) (hn : nob g = true := by first | rfl | assumption | (apply Dr.nob; assumption)) : peekNT i f ρ g = .ok x g := by
  unfold peekNT
  rw [hi]
  simp only [h]
  exact if_pos ⟨hn, hn⟩
theorem e_peekND {ρ : Nv} {g : DL.G} {i : Nat} {f : Ex} {kvs : List (PyData × PyData)} {x : PyData} (hi : ρ[i]? = some (.ow (.nd kvs))) (h : f (ρ.set i (.sh (ndD kvs))) g = .ok x g) (hx : x.canLay0 = true) (hn : nob g = true := by first | rfl | assumption | (apply Dr.nob; assumption)) : peekND i f ρ g = .ok x g := by
  unfold peekND
  rw [hi]
  simp only [h]
  exact if_pos ⟨hx, hn, hn⟩
theorem e_peekNO {ρ : Nv} {g : DL.G} {i : Nat} {f : Ow} {kvs : List (PyData × PyData)} {xs : List PyData} (hi : ρ[i]? = some (.ow (.nd kvs))) (h : f (ρ.set i (.sh (ndD kvs))) g = .ok (.lst xs) g) (hx : PyData.canLayAll0 xs = true) (hn : nob g = true := by first | rfl | assumption | (apply Dr.nob; assumption)) : peekNO i f ρ g = .ok (.lst xs) g := by
  unfold peekNO
  rw [hi]
  simp only [h]
  exact if_pos ⟨hx, hn, hn⟩
theorem s_frzN {ρ : Nv} {g : DL.G} {i : Nat} {b : Sm} {kvs : List (PyData × PyData)} {r : SR} (hi : ρ[i]? = some (.ow (.nd kvs))) (k : b (ρ.set i (.sh (ndD kvs))) g = r) : frzSN i b ρ g = r := by
  unfold frzSN
  simp only [hi]
  exact k
theorem ifT_ok {c a b : Te} {ρ : Nv} {g g1 : DL.G} {k : Bool} (h : c ρ g = .ok k g1) : ifT c a b ρ g = if k = true then a ρ g1 else b ρ g1 := by
  cases k <;> simp [h]
theorem lay_all {ds : List PyData} (h : ∀ d ∈ ds, d.canLay0 = true) : PyData.canLayAll0 ds = true := by
  induction ds with
  | nil => simp [PyData.canLayAll0]
  | cons d r ih => simp [PyData.canLayAll0, h d List.mem_cons_self, ih fun z hz => h z (List.mem_cons_of_mem _ hz)]
end

end K

set_option Elab.async false
set_option linter.all false
set_option maxRecDepth 100000
set_option maxHeartbeats 400000
namespace K
open PySem DL PyProof.Rows
section
variable {n : Nat} {b c part l r : Bg} {g : DL.G}
abbrev natD (k : Nat) : PyData := .int (k : Int)
abbrev Bg := List Int
abbrev at0 (b : Bg) (k : Nat) : Int := b[k]?.getD 0
theorem e_rangeN {a : Ex} {n : Nat} {ρ : Nv} (h : a ρ g = .ok (natD n) g) (hl : n ≤ 1000000) : rangeD a ρ g = .ok ((List.range n).map natD) g := by
  rw [e_range h hl]
  congr 1
  refine List.map_congr_left fun k _ => ?_
  show PyData.int (0 + (k : Int)) = .int (k : Int)
  congr 1
  omega
theorem ix_T (b : Bg) {k : Nat} (h : k < b.length) : ixD (encT b) (natD k) = some (.int (at0 b k)) := by
  refine ix_map PyData.int b k (at0 b k) ?_
  show b[k]? = some (b[k]?.getD 0)
  rw [List.getElem?_eq_getElem h]
  rfl
theorem len_T (b : Bg) : lenD (encT b) = some (natD b.length) := by
  show some (PyData.int (((b.map PyData.int).length : Nat) : Int)) = _
  rw [List.length_map]
theorem forD_acc {α : Type} {t : Tg} {body : Sm} (enc : α → PyData) (R : List α → Nv → Prop) (g : DL.G) (l : List α) (step : ∀ pre x post, l = pre ++ x :: post → ∀ ρ, R pre ρ → ∃ ρ1 ρ2, t (enc x) ρ = some ρ1 ∧ body ρ1 g = .nx ρ2 g ∧ R (pre ++ [x]) ρ2) : ∀ ρ, R [] ρ → ∃ ρ', R l ρ' ∧ forD t body (l.map enc) ρ g = .nx ρ' g := by
  have key : ∀ (post pre : List α), l = pre ++ post → ∀ ρ, R pre ρ → ∃ ρ', R l ρ' ∧ forD t body (post.map enc) ρ g = .nx ρ' g := by
    intro post
    induction post with
    | nil => intro pre e ρ h; rw [List.append_nil] at e; subst e; exact ⟨ρ, h, rfl⟩
    | cons x post ih =>
      intro pre e ρ h
      obtain ⟨ρ1, ρ2, h1, h2, h3⟩ := step pre x post e ρ h
      obtain ⟨ρ', h4, h5⟩ := ih (pre ++ [x]) (by rw [e, List.append_assoc]; rfl) ρ2 h3
      refine ⟨ρ', h4, ?_⟩
      rw [List.map_cons, forD, h1]
      simp only [h2]
      exact h5
  exact fun ρ h => key l [] rfl ρ h
theorem gtI (a b : Int) : (cmpD fun i j => decide (j < i)) (.int a) (.int b) = some (.bool (decide (b < a))) := rfl
theorem eq_empty {ds : List PyData} (h : ∀ d ∈ ds, d.canLay0 = true ∧ d.depth ≤ 10) : eqD (.list ds) (.list []) = some (.bool ds.isEmpty) := by
  have hs := shp_list h
  have h0 : SeqAt.shaped (.list []) = true := by simp [SeqAt.shaped, PyData.canLay0, PyData.canLayAll0, PyData.depth, PyData.depthAll]
  cases ds with
  | nil => rfl
  | cons a r => simp [eqD, hs, h0, PyData.eqv, PyData.eqvAll]
theorem nat_lay {l : List Nat} : ∀ d ∈ l.map natD, d.canLay0 = true ∧ d.depth ≤ 10 := fun d hd => by
  obtain ⟨k, _, rfl⟩ := List.mem_map.mp hd
  exact ⟨rfl, by simp [PyData.depth]⟩
theorem eqvAll_I : ∀ a b : List Int, PyData.eqvAll (a.map PyData.int) (b.map PyData.int) = decide (a = b)
  | [], [] => by simp [PyData.eqvAll]
  | [], _ :: _ => by simp [PyData.eqvAll]
  | _ :: _, [] => by simp [PyData.eqvAll]
  | x :: a, y :: b => by
    have e : PyData.eqv (.int x) (.int y) = decide (x = y) := by simp [PyData.eqv]; rfl
    rw [List.map_cons, List.map_cons, PyData.eqvAll, e, eqvAll_I a b, Bool.eq_iff_iff, Bool.and_eq_true, decide_eq_true_eq, decide_eq_true_eq, decide_eq_true_eq, List.cons_eq_cons]
theorem eqv_T (a b : Bg) : PyData.eqv (encT a) (encT b) = decide (a = b) := by
  unfold encT
  rw [PyData.eqv, eqvAll_I]
theorem ints_flat (b : List Int) : PyData.canLayAll0 (b.map PyData.int) = true ∧ PyData.depthAll (b.map PyData.int) = 0 := by
  induction b with
  | nil => exact ⟨by simp [PyData.canLayAll0], by simp [PyData.depthAll]⟩
  | cons x r ih => exact ⟨by simp [PyData.canLayAll0, ih.1, PyData.canLay0], by simp [PyData.depthAll, PyData.depth, ih.2]⟩
theorem lay_T (b : Bg) : (encT b).canLay0 = true ∧ (encT b).depth ≤ 1 := by
  obtain ⟨h1, h2⟩ := ints_flat b
  refine ⟨?_, ?_⟩
  · unfold encT; rw [PyData.canLay0]; exact h1
  · unfold encT; rw [PyData.depth, h2]; omega
theorem shp_T (b : Bg) : SeqAt.shaped (encT b) = true := by
  obtain ⟨h1, h2⟩ := lay_T b
  simp only [SeqAt.shaped, h1, Bool.true_and]
  first | exact decide_eq_true (by omega) | simp; omega
theorem eq_T (a b : Bg) : eqD (encT a) (encT b) = some (.bool (decide (a = b))) := by
  show (if SeqAt.shaped (encT a) = true ∧ SeqAt.shaped (encT b) = true then some (PyData.bool (PyData.eqv (encT a) (encT b))) else none) = _
  rw [if_pos ⟨shp_T a, shp_T b⟩, eqv_T]
theorem int_lay {l : List Int} : ∀ d ∈ l.map PyData.int, d.canLay0 = true ∧ d.depth ≤ 10 := fun d hd => by
  obtain ⟨k, _, rfl⟩ := List.mem_map.mp hd
  exact ⟨rfl, by simp [PyData.depth]⟩
theorem if_pass {c : Te} {s : Sm} {ρ : Nv} (h : c ρ g = .ok false g) : ifS c s nextS ρ g = .nx ρ g := (if_no h).trans rfl
theorem le2 (a b : Int) : (cmpD fun i j => decide (i ≤ j)) (.int a) (.int b) = some (.bool (decide (a ≤ b))) := rfl
theorem okC_I (a b : Int) : okC (.int a) (.int b) = true := by
  have h3 : PySem.W.alike (.int a) (.int b) = true := by simp [PySem.W.alike]
  have d : ∀ x : Int, (PyData.int x).depth ≤ 10 ∧ (PyData.int x).canLay0 = true := fun x => ⟨by simp [PyData.depth], rfl⟩
  have h1 := d a
  have h2 := d b
  unfold okC
  simp only [h1, h2, h3]
  rfl
theorem okL_I (b : List Int) : okL (b.map PyData.int) = true := by
  unfold okL
  rw [List.all_eq_true]
  intro x hx
  rw [List.all_eq_true]
  intro y hy
  obtain ⟨p, _, rfl⟩ := List.mem_map.mp hx
  obtain ⟨q, _, rfl⟩ := List.mem_map.mp hy
  exact okC_I p q
def mxI (x : Int) (xs : List Int) : Int := xs.foldl (fun a y => if a < y then y else a) x
theorem mxI_spec : ∀ (xs : List Int) (x : Int), mxI x xs ∈ x :: xs ∧ ∀ y ∈ x :: xs, y ≤ mxI x xs
  | [], x => ⟨by simp [mxI], fun y hy => by rw [List.mem_singleton.mp hy]; exact Int.le_refl _⟩
  | z :: r, x => by
    obtain ⟨h1, h2⟩ := mxI_spec r (if x < z then z else x)
    have e : mxI x (z :: r) = mxI (if x < z then z else x) r := rfl
    rw [e]
    have h3 := h2 _ List.mem_cons_self
    refine ⟨?_, fun y hy => ?_⟩
    · rcases List.mem_cons.mp h1 with h | h
      · rw [h]; split <;> simp
      · simp [h]
    · have h4 : x ≤ (if x < z then z else x) ∧ z ≤ (if x < z then z else x) := by split <;> omega
      rcases List.mem_cons.mp hy with h | hy
      · rw [h]; omega
      · rcases List.mem_cons.mp hy with h | hy
        · rw [h]; omega
        · exact h2 y (by simp [hy])
theorem maxD_I : ∀ (xs : List Int) (x : Int), PySem.W.maxD (.int x) (xs.map PyData.int) = .int (mxI x xs)
  | [], x => rfl
  | z :: r, x => by
    have ih := maxD_I r (if x < z then z else x)
    unfold PySem.W.maxD at ih ⊢
    rw [List.map_cons, List.foldl_cons, PySem.W.dataLt_int]
    have e : mxI x (z :: r) = mxI (if x < z then z else x) r := rfl
    rw [e, ← ih]
    congr 1
    by_cases h : x < z
    · simp [h]
    · simp [h]
theorem max_I {b : List Int} (hne : b ≠ []) : ∃ m, m ∈ b ∧ (∀ y ∈ b, y ≤ m) ∧ maxDD (.list (b.map PyData.int)) = some (.int m) ∧ maxDD (encT b) = some (.int m) := by
  cases b with
  | nil => exact absurd rfl hne
  | cons x xs =>
    obtain ⟨h1, h2⟩ := mxI_spec xs x
    have ho := okL_I (x :: xs)
    have hm := maxD_I xs x
    refine ⟨_, h1, h2, ?_, ?_⟩
    · show (if okL ((x :: xs).map PyData.int) = true then some (PySem.W.maxD (.int x) (xs.map PyData.int)) else none) = _
      rw [if_pos ho, hm]
    · show (if okL ((x :: xs).map PyData.int) = true then some (PySem.W.maxD (.int x) (xs.map PyData.int)) else none) = _
      rw [if_pos ho, hm]
theorem leD_I (a b : Int) : leDD (.int a) (.int b) = some (.bool (decide (a ≤ b))) := by
  unfold leDD
  rw [if_pos (okC_I a b), PySem.W.dataLt_int]
  congr 2
  rw [← decide_not]
  exact decide_eq_decide.mpr (by omega)
theorem gtD_I (a b : Int) : gtDD (.int a) (.int b) = some (.bool (decide (b < a))) := by
  unfold gtDD
  rw [if_pos (okC_I a b), PySem.W.dataLt_int]
theorem ltD_I (a b : Int) : ltDD (.int a) (.int b) = some (.bool (decide (a < b))) := by
  unfold ltDD
  rw [if_pos (okC_I a b), PySem.W.dataLt_int]
theorem nkDs_I : ∀ b : List Int, nkDs (b.map PyData.int) = some (b.map NestedKey.num)
  | [] => by simp [nkDs]
  | x :: r => by
    rw [List.map_cons, nkDs, nkDs_I r]
    simp [nkD]
theorem dep_nums : ∀ b : List Int, NestedKey.depthAll (b.map NestedKey.num) = 0
  | [] => by simp [NestedKey.depthAll]
  | x :: r => by
    rw [List.map_cons, NestedKey.depthAll, dep_nums r]
    simp [NestedKey.depth]
theorem nodup_sub_len {α : Type} [BEq α] [LawfulBEq α] : ∀ {l m : List α}, l.Nodup → (∀ x ∈ l, x ∈ m) → l.length ≤ m.length
  | [], m, _, _ => Nat.zero_le _
  | a :: t, m, h, hs => by
    have ha := hs a (by simp)
    have ih := nodup_sub_len (l := t) (m := m.erase a) h.tail fun x hx => by
      have hne : x ≠ a := fun z => by subst z; exact (List.nodup_cons.mp h).1 hx
      exact (List.mem_erase_of_ne hne).mpr (hs x (by simp [hx]))
    rw [List.length_erase_of_mem ha] at ih
    have := List.length_pos_of_mem ha
    rw [List.length_cons]
    omega
theorem geD_I (a b : Int) : geDD (.int a) (.int b) = some (.bool (decide (b ≤ a))) := by
  unfold geDD
  rw [if_pos (okC_I a b), PySem.W.dataLt_int]
  congr 2
  rw [← decide_not]
  exact decide_eq_decide.mpr (by omega)
theorem mnI_spec : ∀ (xs : List Int) (x : Int), xs.foldl min x ∈ x :: xs ∧ ∀ y ∈ x :: xs, xs.foldl min x ≤ y
  | [], x => ⟨by simp, fun y hy => by rw [List.mem_singleton.mp hy]; exact Int.le_refl _⟩
  | z :: r, x => by
    obtain ⟨h1, h2⟩ := mnI_spec r (min x z)
    rw [List.foldl_cons]
    have h3 := h2 _ List.mem_cons_self
    refine ⟨?_, fun y hy => ?_⟩
    · rcases List.mem_cons.mp h1 with h | h
      · rw [h]
        rw [Int.min_def]
        split <;> simp
      · simp [h]
    · have h4 : min x z ≤ x ∧ min x z ≤ z := ⟨Int.min_le_left _ _, Int.min_le_right _ _⟩
      rcases List.mem_cons.mp hy with h | hy
      · rw [h]; omega
      · rcases List.mem_cons.mp hy with h | hy
        · rw [h]; omega
        · exact h2 y (by simp [hy])
theorem min_I {b : List Int} (hne : b ≠ []) : ∃ m, m ∈ b ∧ (∀ y ∈ b, m ≤ y) ∧ minDD (encT b) = some (.int m) := by
  cases b with
  | nil => exact absurd rfl hne
  | cons x xs =>
    obtain ⟨h1, h2⟩ := mnI_spec xs x
    have ho := okL_I (x :: xs)
    have hm := PySem.W.minD_ints x xs
    refine ⟨_, h1, h2, ?_⟩
    show (if okL ((x :: xs).map PyData.int) = true then some (PySem.W.minD (.int x) (xs.map PyData.int)) else none) = _
    rw [if_pos ho, hm]
theorem whileS_any {c : Te} {b : Sm} (P : Nat → Nv → DL.G → Prop) (Qx : SR → Prop) (step : ∀ k ρ g, P k ρ g → (∃ g', c ρ g = .ok false g' ∧ Qx (.nx ρ g')) ∨ (∃ g1 d g2, c ρ g = .ok true g1 ∧ b ρ g1 = .rt d g2 ∧ Qx (.rt d g2)) ∨ (∃ g1 ρ2 g2 k2, c ρ g = .ok true g1 ∧ b ρ g1 = .nx ρ2 g2 ∧ P k2 ρ2 g2 ∧ k2 < k)) :
    ∀ k ρ g, P k ρ g → ∃ r, whileS c b ρ g = r ∧ Qx r := by
  have key : ∀ k ρ g, P k ρ g → ∃ n r, whileN c b n ρ g = r ∧ Qx r ∧ r ≠ .bad := by
    intro k
    induction k using Nat.strongRecOn with
    | ind k ih =>
      intro ρ g h
      rcases step k ρ g h with ⟨g1, h1, h2⟩ | ⟨g1, d, g2, h1, h2, h3⟩ | ⟨g1, ρ2, g2, k2, h1, h2, h3, h4⟩
      · refine ⟨1, _, ?_, h2, fun z => nomatch z⟩
        unfold whileN
        rw [h1]
      · refine ⟨1, _, ?_, h3, fun z => nomatch z⟩
        unfold whileN
        rw [h1]
        simp only [h2]
      · obtain ⟨n, r, h5, h6, h7⟩ := ih k2 h4 ρ2 g2 h3
        refine ⟨n + 1, r, ?_, h6, h7⟩
        unfold whileN
        rw [h1]
        simp only [h2, h5]
  intro k ρ g h
  obtain ⟨n, r, h1, h2, h3⟩ := key k ρ g h
  exact ⟨r, whileS_eq h1 h3, h2⟩
end
end K

set_option Elab.async false
set_option linter.all false
set_option maxRecDepth 100000
set_option maxHeartbeats 400000
namespace K
open PySem DL PyProof.Rows
section
/-! ### vectors, bundles, the first counts -/
variable {g : DL.G} {d : Nat} {r v rest : Bg}
abbrev Bd := Bg × List Bg
abbrev raysD (rs : List Bg) : PyData := .list (rs.map encT)
abbrev encBd (b : Bd) : PyData := .tuple [encT b.1, raysD b.2]
def optC : Option (List Int) → PyData
  | some c => encT c
  | none => .none
def addV (a r : Bg) (t : Int) : Bg := (List.range a.length).map fun k => at0 a k + t * at0 r k
def ge0 (v : Bg) : Bool := v.all fun x => decide (0 ≤ x)
def nul (v : Bg) : Bool := v.all fun x => decide (x = 0)
def srch (sub : Bg → Option (List Int)) (r rest : Bg) : Nat → Int → Option (List Int)
  | 0, _ => none
  | n + 1, t => if ge0 (addV rest r (-t)) = true then (match sub (addV rest r (-t)) with
    | some c => some (t :: c)
    | none => srch sub r rest n (t + 1)) else none
def fstC : List Bg → Bg → Option (List Int)
  | [], rest => if nul rest = true then some [] else none
  | r :: rs, rest => srch (fstC rs) r rest 42 0
structure Ry (d : Nat) (r : Bg) : Prop where
  len : r.length = d
  nn : ∀ x ∈ r, 0 ≤ x ∧ x ≤ 10000
  pos : ∃ x ∈ r, 0 < x
structure Bx (d : Nat) (v : Bg) : Prop where
  len : v.length = d
  nn : ∀ x ∈ v, 0 ≤ x ∧ x ≤ 40
theorem at0_mem {k : Nat} (h : k < v.length) : at0 v k ∈ v := by
  show (v[k]?).getD 0 ∈ v
  rw [List.getElem?_eq_getElem h]
  exact List.getElem_mem h
theorem mem_at0 {x : Int} (h : x ∈ v) : ∃ k, k < v.length ∧ at0 v k = x := by
  obtain ⟨k, hk, rfl⟩ := List.mem_iff_getElem.mp h
  exact ⟨k, hk, by show (v[k]?).getD 0 = _; rw [List.getElem?_eq_getElem hk]; rfl⟩
theorem ext_at0 {a b : Bg} (hl : a.length = b.length) (h : ∀ k, k < a.length → at0 a k = at0 b k) : a = b := by
  refine List.ext_getElem hl fun k h1 h2 => ?_
  have := h k h1
  unfold at0 at this
  rw [List.getElem?_eq_getElem h1, List.getElem?_eq_getElem h2] at this
  exact this
theorem addV_len (a r : Bg) (t : Int) : (addV a r t).length = a.length := by
  unfold addV
  rw [List.length_map, List.length_range]
theorem at0_addV {a : Bg} {k : Nat} (h : k < a.length) (r : Bg) (t : Int) : at0 (addV a r t) k = at0 a k + t * at0 r k := by
  unfold addV
  show (((List.range a.length).map fun k => at0 a k + t * at0 r k)[k]?).getD 0 = _
  rw [List.getElem?_map, List.getElem?_range h]
  rfl
theorem addV_zero (a r : Bg) : addV a r 0 = a := ext_at0 (addV_len _ _ _) fun k hk => by
  rw [addV_len] at hk
  rw [at0_addV hk, Int.zero_mul, Int.add_zero]
theorem addV_next (a r : Bg) (t : Int) : addV (addV a r t) r 1 = addV a r (t + 1) := ext_at0 (by rw [addV_len, addV_len, addV_len]) fun k hk => by
  rw [addV_len, addV_len] at hk
  rw [at0_addV (by rw [addV_len]; exact hk), at0_addV hk, at0_addV hk, Int.add_mul]
  omega
theorem ge0_iff : ge0 v = true ↔ ∀ k, k < v.length → 0 ≤ at0 v k := by
  unfold ge0
  rw [List.all_eq_true]
  constructor
  · intro h k hk
    exact of_decide_eq_true (h _ (at0_mem hk))
  · intro h x hx
    obtain ⟨k, hk, rfl⟩ := mem_at0 hx
    exact decide_eq_true (h k hk)
theorem Ry.nnk (h : Ry d r) (k : Nat) : 0 ≤ at0 r k := by
  by_cases hk : k < r.length
  · exact (h.nn _ (at0_mem hk)).1
  · show 0 ≤ (r[k]?).getD 0
    rw [List.getElem?_eq_none (by omega)]
    exact Int.le_refl _
theorem Bx.ge (h : Bx d v) : ge0 v = true := ge0_iff.mpr fun k hk => (h.nn _ (at0_mem hk)).1
theorem Bx.left (h : Bx d rest) (hr : Ry d r) {t : Int} (ht : 0 ≤ t) (hg : ge0 (addV rest r (-t)) = true) : Bx d (addV rest r (-t)) := by
  refine ⟨by rw [addV_len]; exact h.len, fun x hx => ?_⟩
  obtain ⟨k, hk, rfl⟩ := mem_at0 hx
  have h1 := ge0_iff.mp hg k hk
  rw [addV_len] at hk
  have h2 := (h.nn _ (at0_mem hk)).2
  rw [at0_addV hk] at h1 ⊢
  have h3 : 0 ≤ t * at0 r k := Int.mul_nonneg ht (hr.nnk k)
  have h4 : -t * at0 r k = -(t * at0 r k) := Int.neg_mul _ _
  rw [h4] at h1 ⊢
  omega
theorem Bx.top (h : Bx d rest) (hr : Ry d r) {t : Int} (ht : 41 ≤ t) : ge0 (addV rest r (-t)) = false := by
  cases e : ge0 (addV rest r (-t)) with
  | false => rfl
  | true =>
    exfalso
    obtain ⟨x, hx, hp⟩ := hr.pos
    obtain ⟨k, hk, rfl⟩ := mem_at0 hx
    have hk' : k < rest.length := by rw [h.len, ← hr.len]; exact hk
    have h1 := ge0_iff.mp e k (by rw [addV_len]; exact hk')
    rw [at0_addV hk'] at h1
    have h2 := (h.nn _ (at0_mem hk')).2
    have h3 : -t * at0 r k = -(t * at0 r k) := Int.neg_mul _ _
    have h4 : t * 1 ≤ t * at0 r k := Int.mul_le_mul_of_nonneg_left (by omega) (by omega)
    rw [h3] at h1
    omega
theorem fstC_zero : ∀ {rs : List Bg}, nul rest = true → (∀ r ∈ rs, Ry d r) → Bx d rest → fstC rs rest = some (List.replicate rs.length 0)
  | [], h, _, _ => by unfold fstC; rw [if_pos h]; rfl
  | r :: rs, h, hr, hb => by
    unfold fstC
    unfold srch
    have e : addV rest r (-(0 : Int)) = rest := addV_zero rest r
    rw [e, if_pos hb.ge, fstC_zero (rs := rs) h (fun r hr' => hr r (by simp [hr'])) hb]
    rfl
theorem srch_len {sub : Bg → Option (List Int)} {m : Nat} (hs : ∀ x c, sub x = some c → c.length = m) : ∀ (n : Nat) (t : Int) {c : List Int}, srch sub r rest n t = some c → c.length = m + 1
  | 0, t, c, h => by cases h
  | n + 1, t, c, h => by
    unfold srch at h
    split at h
    · split at h
      · rename_i c' e
        cases h
        rw [List.length_cons, hs _ _ e]
      · exact srch_len hs n _ h
    · cases h
theorem fstC_len : ∀ {rs : List Bg} {rest : Bg} {c : List Int}, fstC rs rest = some c → c.length = rs.length
  | [], rest, c, h => by
    unfold fstC at h
    split at h
    · cases h; rfl
    · cases h
  | r :: rs, rest, c, h => srch_len (fun x c e => fstC_len e) 42 0 h
/-! ### keys (k, rest) -/
abbrev Ky := Nat × Bg
abbrev keyP (p : Ky) : PyData := .tuple [natD p.1, encT p.2]
def keyN (p : Ky) : NestedKey := .tup [.num (p.1 : Int), .tup (p.2.map NestedKey.num)]
theorem nk_P (p : Ky) : nkD (keyP p) = some (keyN p) := by
  have e : nkD (encT p.2) = some (.tup (p.2.map NestedKey.num)) := by
    unfold encT
    rw [nkD, nkDs_I]
    rfl
  unfold keyN
  rw [nkD, nkDs, nkDs, nkDs, e]
  simp [nkD]
theorem lay_P (p : Ky) : (keyP p).canLay0 = true := by
  have := (lay_T p.2).1
  simp [PyData.canLay0, PyData.canLayAll0, this]
theorem nkT_P (p : Ky) : nkT (keyP p) = some (keyN p) := by
  have e : nkT (keyP p) = (nkD (keyP p)).bind fun k => if k.depth ≤ 8 ∧ (keyP p).canLay0 = true then some k else none := rfl
  rw [e, nk_P, Option.bind_some, if_pos]
  refine ⟨?_, lay_P p⟩
  unfold keyN
  rw [NestedKey.depth, NestedKey.depthAll, NestedKey.depthAll, NestedKey.depthAll, NestedKey.depth, NestedKey.depth, dep_nums]
  decide
theorem keyN_inj {p q : Ky} (h : keyN p = keyN q) : p = q := by
  unfold keyN at h
  have h := NestedKey.tup.inj h
  have h1 := (List.cons.inj h).1
  have h2 := (List.cons.inj (List.cons.inj h).2).1
  have e1 : p.1 = q.1 := by have := NestedKey.num.inj h1; omega
  have e2 : p.2 = q.2 := (List.map_inj_right fun x y e => NestedKey.num.inj e).mp (NestedKey.tup.inj h2)
  exact Prod.ext e1 e2
theorem nkP_iff (p q : Ky) : decide (nkD (keyP p) = some (keyN q)) = decide (p = q) := by
  rw [nk_P]
  exact decide_eq_decide.mpr ⟨fun z => keyN_inj (Option.some.inj z), fun z => by rw [z]⟩
abbrev kvP (L : List Ky) : List (PyData × PyData) := L.map fun p => (keyP p, .bool true)
theorem any_kvP (L : List Ky) (p : Ky) : ((kvP L).any fun kv => decide (nkD kv.1 = some (keyN p))) = decide (p ∈ L) := by
  rw [List.any_map, Bool.eq_iff_iff, List.any_eq_true, decide_eq_true_eq]
  constructor
  · rintro ⟨t, ht, e⟩
    have : decide (t = p) = true := by rw [← nkP_iff]; exact e
    rw [← of_decide_eq_true this]; exact ht
  · intro h
    refine ⟨p, h, ?_⟩
    show decide (nkD (keyP p) = some (keyN p)) = true
    rw [nkP_iff]; simp
theorem put_kvP (L : List Ky) (p : Ky) : putND (kvP L) (keyP p) (.bool true) (keyN p) = kvP (if p ∈ L then L else L ++ [p]) := by
  unfold putND
  rw [any_kvP]
  by_cases h : p ∈ L
  · rw [decide_eq_true h, if_pos rfl, if_pos h, List.map_map]
    refine List.map_congr_left fun t _ => ?_
    show (if nkD (keyP t) = some (keyN p) then (keyP t, PyData.bool true) else (keyP t, .bool true)) = (keyP t, .bool true)
    split <;> rfl
  · rw [decide_eq_false h, if_neg (by simp), if_neg h]
    unfold kvP
    rw [List.map_append]
    rfl
/-! ### few keys -/
def allV : Nat → List Bg
  | 0 => [[]]
  | n + 1 => (List.range 41).flatMap fun (x : Nat) => (allV n).map fun b => (x : Int) :: b
theorem allV_mem : ∀ {n : Nat} {b : Bg}, Bx n b → b ∈ allV n
  | 0, b, h => by rw [List.length_eq_zero_iff.mp h.len]; simp [allV]
  | n + 1, [], h => by have := h.len; simp at this
  | n + 1, x :: b, h => by
    have h1 := h.nn x (by simp)
    have h2 := allV_mem (n := n) (b := b) ⟨by have := h.len; simpa using this, fun y hy => h.nn y (by simp [hy])⟩
    exact List.mem_flatMap.mpr ⟨x.toNat, List.mem_range.mpr (by omega), List.mem_map.mpr ⟨b, h2, by rw [show ((x.toNat : Nat) : Int) = x by omega]⟩⟩
theorem flatV_len {α β : Type} (f : α → List β) (m : Nat) : ∀ l : List α, (∀ a ∈ l, (f a).length ≤ m) → (l.flatMap f).length ≤ m * l.length
  | [], _ => by simp
  | a :: l, h => by
    have h1 := h a (by simp)
    have h2 := flatV_len f m l fun b hb => h b (by simp [hb])
    rw [List.flatMap_cons, List.length_append, List.length_cons, Nat.mul_succ]
    omega
theorem allV_len : ∀ n : Nat, (allV n).length ≤ 41 ^ n
  | 0 => by simp [allV]
  | n + 1 => by
    have ih := allV_len n
    have := flatV_len (fun x : Nat => (allV n).map fun b => ((x : Int) :: b : Bg)) (41 ^ n) (List.range 41) fun a _ => by rw [List.length_map]; exact ih
    rw [List.length_range] at this
    show ((List.range 41).flatMap fun x : Nat => (allV n).map fun b => ((x : Int) :: b : Bg)).length ≤ 41 ^ (n + 1)
    rw [Nat.pow_succ]
    omega
/-- what is barred gives none -/
structure Bar (d : Nat) (rs : List Bg) (L : List Ky) : Prop where
  nd : L.Nodup
  ok : ∀ p ∈ L, p.1 < rs.length ∧ Bx d p.2 ∧ fstC (rs.drop p.1) p.2 = none
theorem Bar.few {rs : List Bg} {L : List Ky} (h : Bar d rs L) (hr : rs.length ≤ 12) (hd : d ≤ 3) : L.length < 1000000 := by
  have h1 := nodup_sub_len (m := (List.range 12).flatMap fun k => (allV d).map fun b => ((k, b) : Ky)) h.nd fun p hp => by
    obtain ⟨q1, q2, _⟩ := h.ok p hp
    exact List.mem_flatMap.mpr ⟨p.1, List.mem_range.mpr (by omega), List.mem_map.mpr ⟨p.2, allV_mem q2, rfl⟩⟩
  have h2 := flatV_len (fun k : Nat => (allV d).map fun b => ((k, b) : Ky)) (41 ^ d) (List.range 12) fun a _ => by rw [List.length_map]; exact allV_len d
  rw [List.length_range] at h2
  have h3 : 41 ^ d ≤ 41 ^ 3 := Nat.pow_le_pow_right (by decide) hd
  omega
theorem Bar.put {rs : List Bg} {L : List Ky} (h : Bar d rs L) {p : Ky} (hp : p.1 < rs.length ∧ Bx d p.2 ∧ fstC (rs.drop p.1) p.2 = none) : Bar d rs (if p ∈ L then L else L ++ [p]) := by
  by_cases e : p ∈ L
  · rw [if_pos e]; exact h
  · rw [if_neg e]
    refine ⟨?_, fun q hq => ?_⟩
    · rw [List.nodup_append]
      refine ⟨h.nd, by simp, fun a ha b hb => ?_⟩
      rw [List.mem_singleton.mp hb]
      intro z
      rw [z] at ha
      exact e ha
    · rcases List.mem_append.mp hq with q' | q'
      · exact h.ok q q'
      · rw [List.mem_singleton.mp q']; exact hp
end
end K

set_option Elab.async false
set_option linter.all false
set_option maxRecDepth 100000
set_option maxHeartbeats 400000
namespace K
open PySem DL PyProof.Rows
section
/-! ### the walk of Counting -/
variable {g : DL.G} {d : Nat} {r v rest : Bg} {rs : List Bg} {L : List Ky}
theorem mulS {t : Int} (h : -1000000 ≤ t ∧ t ≤ 1000000) (x : Int) : mulD (.int t) (.int x) = some (.int (t * x)) := by
  show (if (-(2 ^ 64) < t ∧ t < 2 ^ 64) ∨ (-(2 ^ 64) < x ∧ x < 2 ^ 64) then some (PyData.int (t * x)) else none) = _
  rw [if_pos (.inl ⟨by omega, by omega⟩)]
theorem added_ok {a : Bg} {t : Int} (hr : r.length = a.length) (hl : a.length ≤ 1000) (ht : -1000000 ≤ t ∧ t ≤ 1000000) : m_added [encT a, encT r, .int t] g = .ok (encT (addV a r t)) g := by
  unfold m_added
  refine f_rt ?_
  unfold b_added
  show retS _ [.sh (encT a), .sh (encT r), .sh (.int t), .no] g = _
  have c := e_comp (ρ := [.sh (encT a), .sh (encT r), .sh (.int t), .no]) (g := g) (fi := rangeD (unD lenD (varD 0))) (own := [3]) (t := nameT 3) (e := opD addD (opD ixD (varD 0) (varD 3)) (opD mulD (varD 2) (opD ixD (varD 1) (varD 3)))) natD (fun k => PyData.int (at0 a k + t * at0 r k)) (List.range a.length) (e_rangeN (e_un (e_var rfl) (len_T a)) (by omega)) (by rw [List.length_range]; omega) fun k hk => by
    have hk := List.mem_range.mp hk
    exact ⟨_, rfl, e_op (e_op (e_var rfl) (e_var rfl) (ix_T a hk)) (e_op (e_var rfl) (e_op (e_var rfl) (e_var rfl) (ix_T r (by omega))) (mulS ht _)) (addI _ _)⟩
  refine s_ret (e_un (e_share c) ?_)
  unfold addV encT
  rw [List.map_map]
  rfl
abbrev obS (rs : List Bg) (L : List Ky) : DL.G := some (.ob 2 [("rays_told", .sh (raysD rs)), ("barred", .ow (.nd (kvP L)))])
theorem lk_rays (a : FV) (b : FV) : List.lookup ("rays_told" : Str) [("rays_told", a), ("barred", b)] = some a := by rfl
theorem lk_bar (a : FV) (b : FV) : List.lookup ("barred" : Str) [("rays_told", a), ("barred", b)] = some b := by
  rw [List.lookup_cons, show (("barred" : Str) == "rays_told") = false by decide +kernel]
  rfl
theorem lk_cf (a : FV) (b : FV) : List.lookup ("counts_from" : Str) [("rays_told", a), ("barred", b)] = none := by
  rw [List.lookup_cons, show (("counts_from" : Str) == "rays_told") = false by decide +kernel, List.lookup_cons, show (("counts_from" : Str) == "barred") = false by decide +kernel]
  rfl
theorem at_rays {ρ : Nv} {b : Bool} (h : ρ[0]? = some (.dx b)) : atD 0 2 "rays_told" ρ (obS rs L) = .ok (raysD rs) (obS rs L) := by
  unfold atD
  rw [h]
  simp only [lk_rays]
  rfl
theorem in_bar {ρ : Nv} {b : Bool} {p : Ky} {fk : Ex} (h : ρ[0]? = some (.dx b)) (hk : fk ρ (obS rs L) = .ok (keyP p) (obS rs L)) : boolD (inAtD false 0 2 "barred" fk) ρ (obS rs L) = .ok (decide (p ∈ L)) (obS rs L) := by
  refine e_bool ?_
  unfold inAtD
  rw [hk]
  simp only [R.bind_ok, h, lk_bar, nkT_P, any_kvP, Bool.false_xor]
  rfl
theorem key_at {ρ : Nv} {b : Bool} {p : Ky} {fk fv : Ex} (h : ρ[0]? = some (.dx b)) (hk : fk (noDx ρ) none = .ok (keyP p) none) (hv : fv (noDx ρ) none = .ok (.bool true) none) (hl : L.length < 1000000) : keyAtS 0 2 "barred" fk fv ρ (obS rs L) = .nx ρ (obS rs (if p ∈ L then L else L ++ [p])) := by
  unfold keyAtS
  rw [hv]
  simp only [hk, h, lk_bar, nkT_P, put_kvP]
  have e : (kvP L).length < big := by rw [List.length_map]; exact hl
  rw [if_pos trivial, if_pos e]
  have e2 : putO "barred" (FV.ow (.nd (kvP (if p ∈ L then L else L ++ [p])))) [(("rays_told" : Str), FV.sh (raysD rs)), (("barred" : Str), FV.ow (.nd (kvP L)))] = [(("rays_told" : Str), FV.sh (raysD rs)), (("barred" : Str), FV.ow (.nd (kvP (if p ∈ L then L else L ++ [p]))))] := by
    unfold putO
    rw [if_neg (by decide +kernel)]
    unfold putO
    rw [if_pos rfl]
  rw [e2]
theorem call_m {ρ : Nv} {b : Bool} {m : Fn} {fa : Ar} {ds : List PyData} {x : PyData} {L' : List Ky} (h : ρ[0]? = some (.dx b)) (ha : fa ρ (obS rs L) = .ok ds (obS rs L)) (hl : ds.length = 2) (hm : m ds (obS rs L) = .ok x (obS rs L')) : callM 3 0 2 "counts_from" m fa ρ (obS rs L) = .ok x (obS rs L') := by
  unfold callM
  rw [h]
  simp only [lk_cf, ha, R.bind_ok, hl, hm]
  rfl
theorem mulZ_rep {m : Nat} (h : m ≤ 1000) : mulZ (.tuple [.int 0]) (.int (m : Int)) = some (encT (List.replicate m 0)) := by
  show (if ((m : Nat) : Int) = 0 ∧ [PyData.int 0] ≠ [] then some (PyData.tuple []) else mulD (.tuple [.int 0]) (.int (m : Int))) = _
  by_cases h0 : m = 0
  · subst h0
    rw [if_pos ⟨rfl, by simp⟩]
    rfl
  · rw [if_neg (by omega), mul_tup _ m (by omega) h]
    unfold encT
    rw [List.map_replicate]
theorem nul_max {m : Int} (hb : Bx d v) (h1 : m ∈ v) (h2 : ∀ y ∈ v, y ≤ m) : decide (m = 0) = nul v := by
  unfold nul
  rw [Bool.eq_iff_iff, decide_eq_true_eq, List.all_eq_true]
  constructor
  · intro h x hx
    have a := h2 x hx
    have b := (hb.nn x hx).1
    exact decide_eq_true (by omega)
  · intro h
    exact of_decide_eq_true (h m h1)
theorem ge0_min {m : Int} (h1 : m ∈ v) (h2 : ∀ y ∈ v, m ≤ y) : decide (0 ≤ m) = ge0 v := by
  unfold ge0
  rw [Bool.eq_iff_iff, decide_eq_true_eq, List.all_eq_true]
  constructor
  · intro h x hx
    have a := h2 x hx
    exact decide_eq_true (by omega)
  · intro h
    exact of_decide_eq_true (h m h1)
theorem bx_ne (hb : v.length = d) (hd : 1 ≤ d) : v ≠ [] := fun z => by rw [z] at hb; simp at hb; omega
theorem ix_rays {k : Nat} {r : Bg} (h : rs[k]? = some r) : ixD (raysD rs) (natD k) = some (encT r) := ix_map encT rs k r h
theorem len_rays (rs : List Bg) : lenD (raysD rs) = some (natD rs.length) := by
  show some (PyData.int (((rs.map encT).length : Nat) : Int)) = _
  rw [List.length_map]
/-- what a level of counts_from keeps -/
def CF (d : Nat) (rs : List Bg) (m : Fn) (k : Nat) : Prop := ∀ (L : List Ky) (rest : Bg), Bar d rs L → Bx d rest → ∃ L', Bar d rs L' ∧ m [natD k, encT rest] (obS rs L) = .ok (optC (fstC (rs.drop k) rest)) (obS rs L')
theorem cf_loop {m : Fn} {k : Nat} {r : Bg} (hd : 1 ≤ d) (hd3 : d ≤ 3) (hrs : ∀ r ∈ rs, Ry d r) (hlen : rs.length ≤ 12) (hk : rs[k]? = some r) (ih : CF d rs m (k + 1)) (hB : Bar d rs L) (hR : Bx d rest) (z5 : Sl) :
    (∃ L' c, Bar d rs L' ∧ srch (fstC (rs.drop (k + 1))) r rest 42 0 = some c ∧ whileS (boolD (opD geDD (unD minDD (varD 4)) (constD (.int 0))))
      (seqS (setS 5 (callM 3 0 2 "counts_from" m (consD (opD addD (varD 1) (constD (.int 1))) (consD (varD 4) nilD))))
      (seqS (ifS (boolD (unD notNoneD (varD 5))) (retS (opD addD (tupD (consD (varD 3) nilD)) (varD 5))) nextS)
      (seqS (setS 3 (opD addD (varD 3) (constD (.int 1))))
      (setS 4 (callD 3 m_added (consD (varD 2) (consD (opD ixD (atD 0 2 "rays_told") (varD 1)) (consD (unD negD (varD 3)) nilD))))))))
      [.dr, .sh (natD k), .sh (encT rest), .sh (.int 0), .sh (encT rest), z5] (obS rs L) = .rt (encT c) (obS rs L')) ∨
    (∃ L' z3 z4 z6, Bar d rs L' ∧ srch (fstC (rs.drop (k + 1))) r rest 42 0 = none ∧ whileS (boolD (opD geDD (unD minDD (varD 4)) (constD (.int 0))))
      (seqS (setS 5 (callM 3 0 2 "counts_from" m (consD (opD addD (varD 1) (constD (.int 1))) (consD (varD 4) nilD))))
      (seqS (ifS (boolD (unD notNoneD (varD 5))) (retS (opD addD (tupD (consD (varD 3) nilD)) (varD 5))) nextS)
      (seqS (setS 3 (opD addD (varD 3) (constD (.int 1))))
      (setS 4 (callD 3 m_added (consD (varD 2) (consD (opD ixD (atD 0 2 "rays_told") (varD 1)) (consD (unD negD (varD 3)) nilD))))))))
      [.dr, .sh (natD k), .sh (encT rest), .sh (.int 0), .sh (encT rest), z5] (obS rs L) = .nx [.dr, .sh (natD k), .sh (encT rest), z3, z4, z6] (obS rs L')) := by
  have hr : Ry d r := hrs r (List.mem_of_getElem? hk)
  have hk' : k < rs.length := (List.getElem?_eq_some_iff.mp hk).1
  have hlr := hR.len
  generalize hsub : fstC (rs.drop (k + 1)) = sub at *
  have subl : ∀ x c, sub x = some c → c.length ≤ 12 := fun x c e => by
    rw [← hsub] at e
    have := fstC_len e
    rw [List.length_drop] at this
    omega
  obtain ⟨res, h1, h2⟩ := whileS_any (c := boolD (opD geDD (unD minDD (varD 4)) (constD (.int 0))))
    (b := seqS (setS 5 (callM 3 0 2 "counts_from" m (consD (opD addD (varD 1) (constD (.int 1))) (consD (varD 4) nilD))))
      (seqS (ifS (boolD (unD notNoneD (varD 5))) (retS (opD addD (tupD (consD (varD 3) nilD)) (varD 5))) nextS)
      (seqS (setS 3 (opD addD (varD 3) (constD (.int 1))))
      (setS 4 (callD 3 m_added (consD (varD 2) (consD (opD ixD (atD 0 2 "rays_told") (varD 1)) (consD (unD negD (varD 3)) nilD))))))))
    (fun j ρ g => ∃ (t : Int) (L : List Ky) (z5 : Sl), 0 ≤ t ∧ (j : Int) + t = 42 ∧ Bar d rs L ∧ g = obS rs L ∧ ρ = [.dr, .sh (natD k), .sh (encT rest), .sh (.int t), .sh (encT (addV rest r (-t))), z5] ∧ srch sub r rest j t = srch sub r rest 42 0)
    (fun R => (∃ L' c, Bar d rs L' ∧ srch sub r rest 42 0 = some c ∧ R = .rt (encT c) (obS rs L')) ∨ (∃ L' z3 z4 z6, Bar d rs L' ∧ srch sub r rest 42 0 = none ∧ R = .nx [.dr, .sh (natD k), .sh (encT rest), z3, z4, z6] (obS rs L')))
    (fun j ρ g ⟨t, L, z5, h0, hj, hB, hg, hρ, hs⟩ => by
      subst hg hρ
      obtain ⟨mn, m1, m2, m3⟩ := min_I (bx_ne (v := addV rest r (-t)) (by rw [addV_len]; exact hlr) hd)
      have hc : boolD (opD geDD (unD minDD (varD 4)) (constD (.int 0))) [.dr, .sh (natD k), .sh (encT rest), .sh (.int t), .sh (encT (addV rest r (-t))), z5] (obS rs L) = .ok (ge0 (addV rest r (-t))) (obS rs L) := by
        rw [← ge0_min m1 m2]
        exact e_bool (e_op (e_un (e_var rfl) m3) e_const (geD_I _ _))
      cases eg : ge0 (addV rest r (-t)) with
      | false =>
        rw [eg] at hc
        refine .inl ⟨_, hc, .inr ⟨L, _, _, _, hB, ?_, rfl⟩⟩
        rw [← hs]
        cases j with
        | zero => rfl
        | succ j => unfold srch; rw [if_neg (by rw [eg]; exact Bool.false_ne_true)]
      | true =>
        rw [eg] at hc
        have hlt : t < 41 := by
          by_cases hq : t < 41
          · exact hq
          · rw [hR.top hr (by omega)] at eg; cases eg
        cases j with
        | zero => exfalso; simp at hj; omega
        | succ j =>
          have hlb := hR.left hr h0 eg
          obtain ⟨L', hB', hm⟩ := ih L _ hB hlb
          rw [hsub] at hm
          have e1 : callM 3 0 2 "counts_from" m (consD (opD addD (varD 1) (constD (.int 1))) (consD (varD 4) nilD)) [.dr, .sh (natD k), .sh (encT rest), .sh (.int t), .sh (encT (addV rest r (-t))), z5] (obS rs L) = .ok (optC (sub (addV rest r (-t)))) (obS rs L') :=
            call_m rfl (e_cons (e_op (e_var rfl) e_const (addI _ _)) (e_cons (e_var rfl) e_nil)) rfl hm
          unfold srch at hs
          rw [if_pos eg] at hs
          cases es : sub (addV rest r (-t)) with
          | some c =>
            rw [es] at e1 hs
            refine .inr (.inl ⟨_, encT (t :: c), obS rs L', hc, ?_, .inl ⟨L', t :: c, hB', hs.symm, rfl⟩⟩)
            have := subl _ _ es
            refine Eq.trans (seq_eq (set_ok e1)) (seq_rt ?_)
            refine Eq.trans (if_yes (e_bool (e_un (e_var rfl) rfl))) (s_ret (e_op (e_tup (e_cons (e_var rfl) e_nil) rfl) (e_var rfl) ?_))
            exact addT [.int t] (c.map PyData.int) (by rw [List.length_map]; simp; omega)
          | none =>
            rw [es] at e1 hs
            refine .inr (.inr ⟨_, [.dr, .sh (natD k), .sh (encT rest), .sh (.int (t + 1)), .sh (encT (addV rest r (-(t + 1)))), .sh .none], obS rs L', j, hc, ?_, ⟨t + 1, L', _, by omega, by omega, hB', rfl, rfl, hs⟩, by omega⟩)
            refine Eq.trans (seq_eq (set_ok e1)) ?_
            refine Eq.trans (seq_eq (s_skip (e_bool (e_un (e_var rfl) rfl)))) ?_
            refine s_set (e_op (e_var rfl) e_const (addI _ _)) ?_
            refine s_set1 (e_call (e_cons (e_var rfl) (e_cons (e_op (at_rays rfl) (e_var rfl) (ix_rays hk)) (e_cons (e_un (e_var rfl) rfl) e_nil))) rfl (added_ok (by rw [hr.len, hlr]) (by omega) (by omega))) rfl)
    42 [.dr, .sh (natD k), .sh (encT rest), .sh (.int 0), .sh (encT rest), z5] (obS rs L) ⟨0, L, z5, Int.le_refl _, rfl, hB, rfl, by rw [show (-(0 : Int)) = 0 from rfl, addV_zero], rfl⟩
  rcases h2 with ⟨L', c, q1, q2, q3⟩ | ⟨L', z3, z4, z6, q1, q2, q3⟩
  · exact .inl ⟨L', c, q1, q2, h1.trans q3⟩
  · exact .inr ⟨L', z3, z4, z6, q1, q2, h1.trans q3⟩
end
end K

set_option Elab.async false
set_option linter.all false
set_option maxRecDepth 100000
set_option maxHeartbeats 400000
namespace K
open PySem DL PyProof.Rows
section
variable {g : DL.G} {d : Nat} {r v rest : Bg} {rs : List Bg} {L : List Ky}
theorem cf_ok (hd : 1 ≤ d) (hd3 : d ≤ 3) (hrs : ∀ r ∈ rs, Ry d r) (hlen : rs.length ≤ 12) : ∀ n k, k ≤ rs.length → rs.length < n + k → CF d rs (mN_Counting__counts_from n) k
  | 0, k, h1, h2 => by omega
  | n + 1, k, h1, h2 => by
    intro L rest hB hR
    suffices H : ∃ L', Bar d rs L' ∧ b_Counting__counts_from (mN_Counting__counts_from n) [.dr, .sh (natD k), .sh (encT rest), .no, .no, .no] (obS rs L) = .rt (optC (fstC (rs.drop k) rest)) (obS rs L') by
      obtain ⟨L', q1, q2⟩ := H
      refine ⟨L', q1, ?_⟩
      unfold mN_Counting__counts_from
      exact fnG_rt q2
    unfold b_Counting__counts_from
    obtain ⟨mx, m1, m2, _, m3⟩ := max_I (bx_ne hR.len hd)
    have hc1 : boolD (opD eqD (unD maxDD (varD 2)) (constD (.int 0))) [.dr, .sh (natD k), .sh (encT rest), .no, .no, .no] (obS rs L) = .ok (nul rest) (obS rs L) := by
      rw [← nul_max hR m1 m2]
      exact e_bool (e_op (e_un (e_var rfl) m3) e_const (eqI _ _))
    cases en : nul rest with
    | true =>
      rw [en] at hc1
      refine ⟨L, hB, seq_rt (Eq.trans (if_yes hc1) (s_ret (e_op (e_tup (e_cons e_const e_nil) rfl) (e_op (e_un (at_rays rfl) (len_rays rs)) (e_var rfl) (subI _ _)) ?_)))⟩
      rw [show ((rs.length : Nat) : Int) - (k : Int) = ((rs.length - k : Nat) : Int) by omega, mulZ_rep (by omega), fstC_zero en (fun r hr => hrs r (List.mem_of_mem_drop hr)) hR, List.length_drop]
      rfl
    | false =>
      rw [en] at hc1
      by_cases hk : k = rs.length
      · refine ⟨L, hB, Eq.trans (seq_eq (s_skip hc1)) (seq_rt (Eq.trans (if_yes (orT_yes ?_)) (s_ret ?_)))⟩
        · have := e_bool (e_op (ρ := [.dr, .sh (natD k), .sh (encT rest), .no, .no, .no]) (g := obS rs L) (e_var (i := 1) rfl) (e_un (at_rays rfl) (len_rays rs)) (eqI _ _))
          rw [show decide ((k : Int) = ((rs.length : Nat) : Int)) = true from decide_eq_true (by omega)] at this
          exact this
        · rw [hk, List.drop_length]
          unfold fstC
          rw [en]
          exact e_const
      · have hk' : k < rs.length := by omega
        have hor : orT (boolD (opD eqD (varD 1) (unD lenD (atD 0 2 "rays_told")))) (boolD (inAtD false 0 2 "barred" (tupD (consD (varD 1) (consD (varD 2) nilD))))) [.dr, .sh (natD k), .sh (encT rest), .no, .no, .no] (obS rs L) = .ok (decide (((k, rest) : Ky) ∈ L)) (obS rs L) := by
          refine Eq.trans (orT_no ?_) (in_bar rfl (e_tup (e_cons (e_var rfl) (e_cons (e_var rfl) e_nil)) rfl))
          have := e_bool (e_op (ρ := [.dr, .sh (natD k), .sh (encT rest), .no, .no, .no]) (g := obS rs L) (e_var (i := 1) rfl) (e_un (at_rays rfl) (len_rays rs)) (eqI _ _))
          rw [show decide ((k : Int) = ((rs.length : Nat) : Int)) = false from decide_eq_false (by omega)] at this
          exact this
        by_cases hin : ((k, rest) : Ky) ∈ L
        · rw [decide_eq_true hin] at hor
          refine ⟨L, hB, Eq.trans (seq_eq (s_skip hc1)) (seq_rt (Eq.trans (if_yes hor) (s_ret ?_)))⟩
          rw [(hB.ok _ hin).2.2]
          exact e_const
        · rw [decide_eq_false hin] at hor
          have hdr : rs.drop k = rs[k] :: rs.drop (k + 1) := List.drop_eq_getElem_cons hk'
          have hF : fstC (rs.drop k) rest = srch (fstC (rs.drop (k + 1))) rs[k] rest 42 0 := by rw [hdr, fstC]
          have ih := cf_ok hd hd3 hrs hlen n (k + 1) (by omega) (by omega)
          rcases cf_loop hd hd3 hrs hlen (List.getElem?_eq_getElem hk') ih hB hR .no with ⟨L', c, q1, q2, q3⟩ | ⟨L', z3, z4, z6, q1, q2, q3⟩
          · refine ⟨L', q1, Eq.trans (seq_eq (s_skip hc1)) (Eq.trans (seq_eq (s_skip hor)) (s_set e_const (s_set (e_var rfl) (seq_rt ?_))))⟩
            rw [hF, q2]
            exact q3
          · refine ⟨if ((k, rest) : Ky) ∈ L' then L' else L' ++ [(k, rest)], q1.put ⟨hk', hR, by rw [hF]; exact q2⟩, Eq.trans (seq_eq (s_skip hc1)) (Eq.trans (seq_eq (s_skip hor)) (s_set e_const (s_set (e_var rfl) (Eq.trans (seq_eq q3) (Eq.trans (seq_eq (key_at (p := (k, rest)) rfl (e_tup (e_cons (e_var rfl) (e_cons (e_var rfl) e_nil)) rfl) e_const (q1.few hlen hd3))) ?_)))))⟩
            rw [hF, q2]
            exact s_ret e_const
theorem init_ok (rs : List Bg) : m_Counting__init [raysD rs] (some (.ob 2 [])) = .ok .none (obS rs []) := by
  have e1 : putO "rays_told" (FV.sh (raysD rs)) [] = [(("rays_told" : Str), FV.sh (raysD rs))] := rfl
  have e2 : putO "barred" (FV.ow (.nd [])) [(("rays_told" : Str), FV.sh (raysD rs))] = [(("rays_told" : Str), FV.sh (raysD rs)), (("barred" : Str), FV.ow (.nd []))] := by
    unfold putO
    rw [if_neg (by decide +kernel)]
    rfl
  have h1 : setAtS 0 2 "rays_told" (varD 1) [.di, .sh (raysD rs)] (some (.ob 2 [])) = .nx [.di, .sh (raysD rs)] (some (.ob 2 [(("rays_told" : Str), FV.sh (raysD rs))])) := by
    rw [← e1]
    rfl
  have h2 : setAtOS 0 2 "barred" dictNO [.di, .sh (raysD rs)] (some (.ob 2 [(("rays_told" : Str), FV.sh (raysD rs))])) = .nx [.di, .sh (raysD rs)] (obS rs []) := by
    show (SR.nx [.di, .sh (raysD rs)] (some (.ob 2 (putO "barred" (FV.ow (.nd [])) [(("rays_told" : Str), FV.sh (raysD rs))])))) = _
    rw [e2]
    rfl
  have hb : b_Counting__init [.di, .sh (raysD rs)] (some (.ob 2 [])) = .nx [.di, .sh (raysD rs)] (obS rs []) := by
    unfold b_Counting__init
    exact Eq.trans (seq_eq h1) h2
  show (match b_Counting__init [.di, .sh (raysD rs)] (some (.ob 2 [])) with
    | .nx _ g1 => R.ok PyData.none g1
    | .rt d g1 => .ok d g1
    | .ex k _ g1 => .ex k g1
    | _ => .bad) = _
  rw [hb]
def cT (base : Bg) (rs : List Bg) (v : Bg) : Option (List Int) := if ge0 (addV v base (-1)) = true then fstC rs (addV v base (-1)) else none
/-- a bundle of d places -/
structure Bu (d : Nat) (b : Bd) : Prop where
  d1 : 1 ≤ d
  d3 : d ≤ 3
  len : b.1.length = d
  nn : ∀ x ∈ b.1, 0 ≤ x ∧ x ≤ 1000000
  rs : ∀ r ∈ b.2, Ry d r
  few : b.2.length ≤ 3
theorem Bu.left {b : Bd} (h : Bu d b) (hv : Bx d v) (hg : ge0 (addV v b.1 (-1)) = true) : Bx d (addV v b.1 (-1)) := by
  refine ⟨by rw [addV_len]; exact hv.len, fun x hx => ?_⟩
  obtain ⟨k, hk, rfl⟩ := mem_at0 hx
  have h1 := ge0_iff.mp hg k hk
  rw [addV_len] at hk
  have h2 := (hv.nn _ (at0_mem hk)).2
  have h3 := (h.nn _ (at0_mem (by rw [h.len, ← hv.len]; exact hk))).1
  rw [at0_addV hk] at h1 ⊢
  omega
theorem told_ok {b : Bd} (h : Bu d b) (hv : Bx d v) : m_counts_told [encBd b, encT v] g = .ok (optC (cT b.1 b.2 v)) g := by
  have hd := h.d1
  have hvl := hv.len
  have hbl := h.len
  unfold m_counts_told
  refine f_rt ?_
  unfold b_counts_told
  show seqS _ _ [.sh (encBd b), .sh (encT v), .no] g = _
  refine s_set (e_call (ds := [encT v, encT b.1, .int (-1)]) (e_cons (e_var rfl) (e_cons (e_op (e_var rfl) e_const (ix0 _ _)) (e_cons (e_un e_const rfl) e_nil))) rfl (added_ok (by rw [hbl, hvl]) (by have := h.d3; omega) (by omega))) ?_
  obtain ⟨mn, m1, m2, m3⟩ := min_I (bx_ne (v := addV v b.1 (-1)) (by rw [addV_len]; exact hvl) hd)
  have hc : boolD (opD ltDD (unD minDD (varD 2)) (constD (.int 0))) [.sh (encBd b), .sh (encT v), .sh (encT (addV v b.1 (-1)))] g = .ok (!ge0 (addV v b.1 (-1))) g := by
    rw [← ge0_min m1 m2, ← decide_not]
    refine e_bool (e_op (e_un (e_var rfl) m3) e_const ?_)
    rw [ltD_I]
    congr 2
    exact decide_eq_decide.mpr (by omega)
  unfold cT
  cases eg : ge0 (addV v b.1 (-1)) with
  | false =>
    rw [eg] at hc
    rw [if_neg (by simp)]
    exact seq_rt (Eq.trans (if_yes hc) (s_ret e_const))
  | true =>
    rw [eg] at hc
    rw [if_pos rfl]
    refine Eq.trans (seq_eq (s_skip hc)) (s_ret ?_)
    have few := h.few
    obtain ⟨L', q1, q2⟩ := cf_ok (rs := b.2) hd h.d3 h.rs (by omega) 5 0 (by omega) (by omega) [] (addV v b.1 (-1)) ⟨List.nodup_nil, fun _ hp => nomatch hp⟩ (h.left hv eg)
    unfold newM
    have ea : consD (opD ixD (varD 0) (constD (.int 1))) nilD [.sh (encBd b), .sh (encT v), .sh (encT (addV v b.1 (-1)))] g = .ok [raysD b.2] g := e_cons (e_op (e_var rfl) e_const (ix1 _ _ _)) e_nil
    have eb : consD (constD (.int 0)) (consD (varD 2) nilD) ([Sl.sh (encBd b), .sh (encT v), .no].set 2 (.sh (encT (addV v b.1 (-1))))) g = .ok [natD 0, encT (addV v b.1 (-1))] g := e_cons e_const (e_cons (e_var rfl) e_nil)
    have q2' : m_Counting__counts_from [natD 0, encT (addV v b.1 (-1))] (some (.ob 2 [(("rays_told" : Str), FV.sh (raysD b.2)), (("barred" : Str), FV.ow (.nd (kvP [])))])) = .ok (optC (fstC b.2 (addV v b.1 (-1)))) (obS b.2 L') := q2
    show (R.bind (consD (opD ixD (varD 0) (constD (.int 1))) nilD [.sh (encBd b), .sh (encT v), .sh (encT (addV v b.1 (-1)))] g) _) = _
    rw [ea]
    simp only [R.bind_ok, init_ok]
    rw [if_pos (show [raysD b.2].length + 1 = 2 from rfl), lk_cf, if_pos ⟨trivial, rfl⟩, eb]
    simp only [R.bind_ok]
    rw [if_pos (show [natD 0, encT (addV v b.1 (-1))].length + 1 = 3 from rfl), q2']
/-! ### the law's own counts -/
theorem sub_add {base : Bg} (hb : base.length = v.length) (t : Int) : addV v (addV base r t) (-1) = addV (addV v base (-1)) r (-t) := ext_at0 (by rw [addV_len, addV_len, addV_len]) fun k hk => by
  rw [addV_len] at hk
  rw [at0_addV hk, at0_addV (by rw [hb]; exact hk), at0_addV (by rw [addV_len]; exact hk), at0_addV hk]
  have h4 : -t * at0 r k = -(t * at0 r k) := Int.neg_mul _ _
  rw [h4]
  omega
theorem filt_ge {here : Bg} : ((List.range v.length).filter fun k => decide (at0 v k < at0 here k)).length = 0 ↔ ge0 (addV v here (-1)) = true := by
  rw [List.length_eq_zero_iff, List.filter_eq_nil_iff, ge0_iff, addV_len]
  constructor
  · intro h k hk
    have := h k (List.mem_range.mpr hk)
    rw [decide_eq_true_eq] at this
    rw [at0_addV hk]
    omega
  · intro h k hk
    have hk := List.mem_range.mp hk
    have := h k hk
    rw [at0_addV hk] at this
    rw [decide_eq_true_eq]
    omega
theorem eq_nul {base : Bg} (hb : base.length = v.length) : decide (base = v) = nul (addV v base (-1)) := by
  unfold nul
  rw [Bool.eq_iff_iff, decide_eq_true_eq, List.all_eq_true]
  constructor
  · intro h x hx
    obtain ⟨k, hk, rfl⟩ := mem_at0 hx
    rw [addV_len] at hk
    rw [at0_addV hk, h]
    exact decide_eq_true (by omega)
  · intro h
    refine ext_at0 hb fun k hk => ?_
    have hk' : k < v.length := by omega
    have := of_decide_eq_true (h _ (at0_mem (v := addV v base (-1)) (k := k) (by rw [addV_len]; exact hk')))
    rw [at0_addV hk'] at this
    omega
theorem nul_ge (h : nul v = true) : ge0 v = true := by
  unfold nul at h
  unfold ge0
  rw [List.all_eq_true] at h ⊢
  intro x hx
  have := of_decide_eq_true (h x hx)
  exact decide_eq_true (by omega)
theorem cT_nil {base : Bg} (hb : base.length = v.length) : cT base [] v = if decide (base = v) = true then some [] else none := by
  unfold cT
  rw [eq_nul hb]
  cases e : nul (addV v base (-1)) with
  | true => rw [if_pos (nul_ge e), fstC, e]
  | false =>
    split
    · rw [fstC, e]
    · rfl
theorem slice1 (r : Bg) (rs : List Bg) : ∀ {ρ : Nv} {i : Nat}, ρ[i]? = some (.sh (raysD (r :: rs))) → slD (varD i) (somePart (constD (.int 1))) noPart ρ g = .ok (raysD rs) g := by
  intro ρ i h
  have := cut_hi ((r :: rs).map encT) 1 (by simp)
  have e2 : cutP ((r :: rs).map encT) (some 1) none = rs.map encT := this
  simp [h]
  exact e2
end
end K

set_option Elab.async false
set_option linter.all false
set_option maxRecDepth 100000
set_option maxHeartbeats 400000
namespace K
open PySem DL PyProof.Rows
section
variable {g : DL.G} {d : Nat} {r v rest : Bg} {rs : List Bg}
noncomputable abbrev lawW (m : Fn) : Sm := whileS (boolD (opD eqD (unD lenD (shareO (lcO (rangeD (unD lenD (varD 2))) [6] (nameT 6) (boolD (opD (cmpD fun i j => decide (j < i)) (opD ixD (varD 3) (varD 6)) (opD ixD (varD 2) (varD 6)))) (varD 6)))) (constD (.int 0))))
  (seqS (setS 5 (callD 3 m (consD (varD 3) (consD (slD (varD 1) (somePart (constD (.int 1))) noPart) (consD (varD 2) nilD)))))
  (seqS (ifS (boolD (unD notNoneD (varD 5)))
  (retS (opD addD (tupD (consD (varD 4) nilD)) (varD 5)))
  nextS)
  (seqS (setS 3 (unD tupleD (shareO (lcO (rangeD (unD lenD (varD 2))) [6] (nameT 6) yesT (opD addD (opD ixD (varD 3) (varD 6)) (opD ixD (opD ixD (varD 1) (constD (.int 0))) (varD 6)))))))
  (setS 4 (opD addD (varD 4) (constD (.int 1)))))))
theorem ix0L (a : PyData) (r : List PyData) : ixD (.list (a :: r)) (.int 0) = some a := L2.atI_nat (j := 0) rfl
theorem lawC_test {here : Bg} {x0 x1 x4 x5 x6 : Sl} (hh : here.length = v.length) (hl : v.length ≤ 3) : boolD (opD eqD (unD lenD (shareO (lcO (rangeD (unD lenD (varD 2))) [6] (nameT 6) (boolD (opD (cmpD fun i j => decide (j < i)) (opD ixD (varD 3) (varD 6)) (opD ixD (varD 2) (varD 6)))) (varD 6)))) (constD (.int 0))) [x0, x1, .sh (encT v), .sh (encT here), x4, x5, x6] g = .ok (ge0 (addV v here (-1))) g := by
  have c := e_compF (ρ := [x0, x1, .sh (encT v), .sh (encT here), x4, x5, x6]) (g := g) (fi := rangeD (unD lenD (varD 2))) (own := [6]) (t := nameT 6) (c := boolD (opD (cmpD fun i j => decide (j < i)) (opD ixD (varD 3) (varD 6)) (opD ixD (varD 2) (varD 6)))) (e := varD 6) natD (fun k => decide (at0 v k < at0 here k)) natD (List.range v.length) (e_rangeN (e_un (e_var rfl) (len_T v)) (by omega)) (by rw [List.length_range]; omega) fun k hk => by
    have hk := List.mem_range.mp hk
    exact ⟨_, rfl, e_bool (e_op (e_op (e_var rfl) (e_var rfl) (ix_T here (by omega))) (e_op (e_var rfl) (e_var rfl) (ix_T v hk)) (gtI _ _)), fun _ => e_var rfl⟩
  have h := filt_ge (v := v) (here := here)
  generalize ((List.range v.length).filter fun k => decide (at0 v k < at0 here k)) = F at c h
  have el : lenD (.list (F.map natD)) = some (natD F.length) := by
    show some (PyData.int (((F.map natD).length : Nat) : Int)) = _
    rw [List.length_map]
  refine e_bool (e_op (e_un (e_share c) el) e_const ?_)
  rw [eqI]
  congr 2
  rw [Bool.eq_iff_iff, decide_eq_true_eq, ← h]
  omega
theorem lawC_next {here : Bg} {x0 x4 x5 x6 : Sl} (hh : here.length = v.length) (hr : r.length = v.length) (hl : v.length ≤ 3) : unD tupleD (shareO (lcO (rangeD (unD lenD (varD 2))) [6] (nameT 6) yesT (opD addD (opD ixD (varD 3) (varD 6)) (opD ixD (opD ixD (varD 1) (constD (.int 0))) (varD 6))))) [x0, .sh (raysD (r :: rs)), .sh (encT v), .sh (encT here), x4, x5, x6] g = .ok (encT (addV here r 1)) g := by
  have c := e_comp (ρ := [x0, .sh (raysD (r :: rs)), .sh (encT v), .sh (encT here), x4, x5, x6]) (g := g) (fi := rangeD (unD lenD (varD 2))) (own := [6]) (t := nameT 6) (e := opD addD (opD ixD (varD 3) (varD 6)) (opD ixD (opD ixD (varD 1) (constD (.int 0))) (varD 6))) natD (fun k => PyData.int (at0 here k + 1 * at0 r k)) (List.range v.length) (e_rangeN (e_un (e_var rfl) (len_T v)) (by omega)) (by rw [List.length_range]; omega) fun k hk => by
    have hk := List.mem_range.mp hk
    refine ⟨_, rfl, e_op (e_op (e_var rfl) (e_var rfl) (ix_T here (by omega))) (e_op (e_op (e_var rfl) e_const (ix0L _ _)) (e_var rfl) (ix_T r (by omega))) ?_⟩
    rw [Int.one_mul]
    exact addI _ _
  refine e_un (e_share c) ?_
  unfold addV encT
  rw [List.map_map, hh]
  rfl
theorem lawC_ok (hd1 : 1 ≤ d) (hd3 : d ≤ 3) (hvl : v.length = d) : ∀ (n : Nat) (rs : List Bg) (base : Bg), rs.length < n → rs.length ≤ 12 → base.length = d → (∀ r ∈ rs, Ry d r) → (ge0 (addV v base (-1)) = true → Bx d (addV v base (-1))) → mN_law_counts n [encT base, raysD rs, encT v] g = .ok (optC (cT base rs v)) g
  | 0, rs, base, h, _, _, _, _ => by omega
  | n + 1, [], base, h, h12, hb, hrs, hq => by
    unfold mN_law_counts
    refine f_rt ?_
    unfold b_law_counts
    show seqS _ _ [.sh (encT base), .sh (raysD []), .sh (encT v), .no, .no, .no, .no] g = _
    refine seq_rt (Eq.trans (if_yes (e_bool (e_op (e_un (e_var rfl) (len_rays [])) e_const (eqI _ _)))) (s_ret ?_))
    rw [cT_nil (by omega)]
    refine e_if (e_bool (e_op (e_var rfl) (e_var rfl) (eq_T base v))) (fun e => ?_) fun e => ?_
    · rw [e, if_pos rfl]
      exact e_tup e_nil rfl
    · rw [e, if_neg (by simp)]
      exact e_const
  | n + 1, r :: rs, base, h, h12, hb, hrs, hq => by
    have ih := fun (rs : List Bg) (base : Bg) => lawC_ok hd1 hd3 hvl n rs base
    have hr : Ry d r := hrs r (by simp)
    have hrs' : ∀ r ∈ rs, Ry d r := fun x hx => hrs x (by simp [hx])
    have h' : rs.length < n := by simp at h; omega
    have h12' : rs.length ≤ 12 := by simp at h12; omega
    unfold mN_law_counts
    refine f_rt ?_
    unfold b_law_counts
    show seqS _ _ [.sh (encT base), .sh (raysD (r :: rs)), .sh (encT v), .no, .no, .no, .no] g = _
    have hc0 : boolD (opD eqD (unD lenD (varD 1)) (constD (.int 0))) [.sh (encT base), .sh (raysD (r :: rs)), .sh (encT v), .no, .no, .no, .no] g = .ok false g := by
      refine e_bool (e_op (e_un (e_var rfl) (len_rays (r :: rs))) e_const ?_)
      rw [eqI, decide_eq_false (by rw [List.length_cons]; omega)]
    refine Eq.trans (seq_eq (s_skip hc0)) (s_set (e_var rfl) (s_set e_const ?_))
    show seqS (lawW (mN_law_counts n)) _ [.sh (encT base), .sh (raysD (r :: rs)), .sh (encT v), .sh (encT base), .sh (.int 0), .no, .no] g = _
    generalize hrest : addV v base (-1) = rest at hq
    have eT : cT base (r :: rs) v = if ge0 rest = true then srch (fstC rs) r rest 42 0 else none := by unfold cT; rw [hrest, fstC]
    have h00 : addV base r 0 = base := addV_zero _ _
    cases eg : ge0 rest with
    | false =>
      rw [eT, eg, if_neg (by simp)]
      have hc := lawC_test (g := g) (v := v) (here := base) (x0 := .sh (encT base)) (x1 := .sh (raysD (r :: rs))) (x4 := .sh (.int 0)) (x5 := .no) (x6 := .no) (by omega) (by omega)
      rw [hrest, eg] at hc
      have hw : lawW (mN_law_counts n) [.sh (encT base), .sh (raysD (r :: rs)), .sh (encT v), .sh (encT base), .sh (.int 0), .no, .no] g = .nx [.sh (encT base), .sh (raysD (r :: rs)), .sh (encT v), .sh (encT base), .sh (.int 0), .no, .no] g := by
        refine whileS_eq (n := 1) ?_ fun z => nomatch z
        unfold whileN
        rw [hc]
      exact Eq.trans (seq_eq hw) (s_ret e_const)
    | true =>
      have hR : Bx d rest := hq eg
      rw [eT, eg, if_pos rfl]
      obtain ⟨res, h1, h2⟩ := whileS_any
        (c := boolD (opD eqD (unD lenD (shareO (lcO (rangeD (unD lenD (varD 2))) [6] (nameT 6) (boolD (opD (cmpD fun i j => decide (j < i)) (opD ixD (varD 3) (varD 6)) (opD ixD (varD 2) (varD 6)))) (varD 6)))) (constD (.int 0))))
        (b := seqS (setS 5 (callD 3 (mN_law_counts n) (consD (varD 3) (consD (slD (varD 1) (somePart (constD (.int 1))) noPart) (consD (varD 2) nilD)))))
  (seqS (ifS (boolD (unD notNoneD (varD 5)))
  (retS (opD addD (tupD (consD (varD 4) nilD)) (varD 5)))
  nextS)
  (seqS (setS 3 (unD tupleD (shareO (lcO (rangeD (unD lenD (varD 2))) [6] (nameT 6) yesT (opD addD (opD ixD (varD 3) (varD 6)) (opD ixD (opD ixD (varD 1) (constD (.int 0))) (varD 6)))))))
  (setS 4 (opD addD (varD 4) (constD (.int 1)))))))
        (fun j ρ g' => ∃ (t : Int) (z5 : Sl), 0 ≤ t ∧ (j : Int) + t = 42 ∧ g' = g ∧ ρ = [.sh (encT base), .sh (raysD (r :: rs)), .sh (encT v), .sh (encT (addV base r t)), .sh (.int t), z5, .no] ∧ srch (fstC rs) r rest j t = srch (fstC rs) r rest 42 0)
        (fun R => (∃ c, srch (fstC rs) r rest 42 0 = some c ∧ R = .rt (encT c) g) ∨ (∃ ρ', srch (fstC rs) r rest 42 0 = none ∧ R = .nx ρ' g))
        (fun j ρ g' ⟨t, z5, h0, hj, hg, hρ, hs⟩ => by
          subst hg hρ
          have hbl : (addV base r t).length = v.length := by rw [addV_len]; omega
          have hc := lawC_test (g := g') (v := v) (here := addV base r t) (x0 := .sh (encT base)) (x1 := .sh (raysD (r :: rs))) (x4 := .sh (.int t)) (x5 := z5) (x6 := .no) hbl (by omega)
          have hle : addV v (addV base r t) (-1) = addV rest r (-t) := by rw [← hrest]; exact sub_add (by omega) t
          rw [hle] at hc
          cases eg : ge0 (addV rest r (-t)) with
          | false =>
            rw [eg] at hc
            refine .inl ⟨_, hc, .inr ⟨_, ?_, rfl⟩⟩
            rw [← hs]
            cases j with
            | zero => rfl
            | succ j => unfold srch; rw [if_neg (by rw [eg]; exact Bool.false_ne_true)]
          | true =>
            rw [eg] at hc
            cases j with
            | zero =>
              exfalso
              rw [hR.top hr (by simp at hj; omega)] at eg
              cases eg
            | succ j =>
              have hlb := hR.left hr h0 eg
              have hm := ih rs (addV base r t) h' h12' (by omega) hrs' (fun _ => by rw [hle]; exact hlb)
              have ec : cT (addV base r t) rs v = fstC rs (addV rest r (-t)) := by unfold cT; rw [hle, if_pos eg]
              rw [ec] at hm
              have e1 : callD 3 (mN_law_counts n) (consD (varD 3) (consD (slD (varD 1) (somePart (constD (.int 1))) noPart) (consD (varD 2) nilD))) [.sh (encT base), .sh (raysD (r :: rs)), .sh (encT v), .sh (encT (addV base r t)), .sh (.int t), z5, .no] g' = .ok (optC (fstC rs (addV rest r (-t)))) g' :=
                e_call (e_cons (e_var rfl) (e_cons (slice1 r rs rfl) (e_cons (e_var rfl) e_nil))) rfl hm
              unfold srch at hs
              rw [if_pos eg] at hs
              cases es : fstC rs (addV rest r (-t)) with
              | some c =>
                rw [es] at e1 hs
                refine .inr (.inl ⟨_, encT (t :: c), g', hc, ?_, .inl ⟨t :: c, hs.symm, rfl⟩⟩)
                have := fstC_len es
                refine Eq.trans (seq_eq (set_ok e1)) (seq_rt ?_)
                refine Eq.trans (if_yes (e_bool (e_un (e_var rfl) rfl))) (s_ret (e_op (e_tup (e_cons (e_var rfl) e_nil) rfl) (e_var rfl) ?_))
                exact addT [.int t] (c.map PyData.int) (by rw [List.length_map]; simp; omega)
              | none =>
                rw [es] at e1 hs
                refine .inr (.inr ⟨_, [.sh (encT base), .sh (raysD (r :: rs)), .sh (encT v), .sh (encT (addV base r (t + 1))), .sh (.int (t + 1)), .sh .none, .no], g', j, hc, ?_, ⟨t + 1, _, by omega, by omega, rfl, rfl, hs⟩, by omega⟩)
                refine Eq.trans (seq_eq (set_ok e1)) ?_
                refine Eq.trans (seq_eq (s_skip (e_bool (e_un (e_var rfl) rfl)))) ?_
                rw [← addV_next base r t]
                exact s_set (lawC_next (g := g') hbl (by rw [hr.len]; omega) (by omega)) (s_set1 (e_op (e_var rfl) e_const (addI _ _)) rfl))
        42 [.sh (encT base), .sh (raysD (r :: rs)), .sh (encT v), .sh (encT base), .sh (.int 0), .no, .no] g ⟨0, .no, Int.le_refl _, rfl, rfl, by rw [h00], rfl⟩
      rcases h2 with ⟨c, q1, q2⟩ | ⟨ρ', q1, q2⟩
      · rw [q1]
        exact seq_rt (h1.trans q2)
      · rw [q1]
        exact Eq.trans (seq_eq (h1.trans q2)) (s_ret e_const)
theorem Bx.bu (hv : Bx d v) {b : Bd} (hb : Bu d b) : mN_law_counts 5 [encT b.1, raysD b.2, encT v] g = .ok (optC (cT b.1 b.2 v)) g :=
  lawC_ok hb.d1 hb.d3 hv.len 5 b.2 b.1 (by have := hb.few; omega) (by have := hb.few; omega) hb.len hb.rs (hb.left hv)
theorem lawCounts_ok (hv : Bx d v) {b : Bd} (hb : Bu d b) : m_law_counts [encT b.1, raysD b.2, encT v] g = .ok (optC (cT b.1 b.2 v)) g := hv.bu hb
end
end K

set_option Elab.async false
set_option linter.all false
set_option maxRecDepth 100000
set_option maxHeartbeats 400000
namespace K
open PySem DL PyProof.Rows
structure TO (α : Type) [LT α] : Prop where
  irr : ∀ a : α, ¬ a < a
  tr : ∀ a b c : α, a < b → b < c → a < c
  tri : ∀ a b : α, a < b ∨ a = b ∨ b < a
theorem TO.int : TO Int := ⟨fun a h => by omega, fun a b c h1 h2 => by omega, fun a b => by omega⟩
theorem TO.list {α : Type} [LT α] (T : TO α) : TO (List α) where
  irr := fun l => by
    induction l with
    | nil => exact List.not_lt_nil _
    | cons a r ih =>
      rw [List.cons_lt_cons_iff]
      rintro (h | h)
      · exact T.irr a h
      · exact ih h.2
  tr := fun l => by
    induction l with
    | nil =>
      intro m k h1 h2
      cases k with
      | nil => exact absurd h2 (List.not_lt_nil _)
      | cons c k => exact List.nil_lt_cons _ _
    | cons a r ih =>
      intro m k h1 h2
      cases m with
      | nil => exact absurd h1 (List.not_lt_nil _)
      | cons b m =>
        cases k with
        | nil => exact absurd h2 (List.not_lt_nil _)
        | cons c k =>
          rw [List.cons_lt_cons_iff] at h1 h2 ⊢
          rcases h1 with h1 | ⟨rfl, h1⟩
          · rcases h2 with h2 | ⟨rfl, h2⟩
            · exact .inl (T.tr _ _ _ h1 h2)
            · exact .inl h1
          · rcases h2 with h2 | ⟨rfl, h2⟩
            · exact .inl h2
            · exact .inr ⟨rfl, ih _ _ h1 h2⟩
  tri := fun l => by
    induction l with
    | nil =>
      intro m
      cases m with
      | nil => exact .inr (.inl rfl)
      | cons b m => exact .inl (List.nil_lt_cons _ _)
    | cons a r ih =>
      intro m
      cases m with
      | nil => exact .inr (.inr (List.nil_lt_cons _ _))
      | cons b m =>
        rw [List.cons_lt_cons_iff, List.cons_lt_cons_iff]
        rcases T.tri a b with h | rfl | h
        · exact .inl (.inl h)
        · rcases ih m with h | rfl | h
          · exact .inl (.inr ⟨rfl, h⟩)
          · exact .inr (.inl rfl)
          · exact .inr (.inr (.inr ⟨rfl, h⟩))
        · exact .inr (.inr (.inl h))
theorem TB : TO Bg := TO.int.list
theorem s_guard {c : Te} {d : PyData} {b : Sm} {ρ : Nv} {r : SR} {k : Bool} (h : c ρ g = .ok k g) (h1 : k = true → r = .rt d g) (h2 : k = false → b ρ g = r) : seqS (ifS c (retS (constD d)) nextS) b ρ g = r := by
  cases k with
  | true => rw [h1 rfl]; exact s_seqR ((if_yes h).trans (s_ret e_const))
  | false => exact s_seq (if_pass h) (h2 rfl)
theorem e_up {a : Ex} {n : Nat} {ρ : Nv} (h : a ρ g = .ok (natD n) g) (hl : n ≤ 1000000) : range2D (constD (.int 1)) a ρ g = .ok ((List.range (n - 1)).map fun k => natD (k + 1)) g := by
  have e : upFrom 1 ((n : Int) - 1).toNat = (List.range (n - 1)).map fun k => natD (k + 1) := by
    unfold upFrom
    rw [show ((n : Int) - 1).toNat = n - 1 by omega]
    refine List.map_congr_left fun k _ => ?_
    show PyData.int (1 + (k : Int)) = .int ((k : Int) + 1)
    congr 1
    omega
  have hb : (1 : Int) ≤ (big : Int) ∧ -(big : Int) ≤ 1 ∧ (n : Int) ≤ (big : Int) ∧ -(big : Int) ≤ (n : Int) := by unfold big; omega
  rw [← e]
  simp only [range2D, e_const (d := .int 1), R.bind_ok, h]
  exact if_pos hb
theorem lt_T (b c : Bg) : PySem.W.dataLt (encT b) (encT c) = decide (b < c) := by
  unfold encT
  rw [PySem.W.dataLt_tuple]
  show PySem.W.rowLt (b.map .int) (c.map .int) = _
  rw [PySem.W.dataLt_ints]
theorem alike_ints : ∀ b c : List Int, PySem.W.alikeAll (b.map PyData.int) (c.map PyData.int) = true
  | [], _ => by simp [PySem.W.alikeAll]
  | x :: r, [] => by simp [PySem.W.alikeAll]
  | x :: r, y :: q => by simp [PySem.W.alikeAll, PySem.W.alike, alike_ints r q]
theorem alike_T (b c : Bg) : PySem.W.alike (encT b) (encT c) = true := by
  unfold encT
  rw [PySem.W.alike]
  exact alike_ints b c
theorem okC_T (b c : Bg) : okC (encT b) (encT c) = true := by
  have h1 := lay_T b
  have h2 := lay_T c
  have h3 := alike_T b c
  have d1 : decide ((encT b).depth ≤ 10) = true := decide_eq_true (by omega)
  have d2 : decide ((encT c).depth ≤ 10) = true := decide_eq_true (by omega)
  unfold okC
  rw [h1.1, h2.1, h3, d1, d2]
  rfl
theorem okL_T (l : List Bg) : okL (l.map encT) = true := by
  unfold okL
  rw [List.all_eq_true]
  intro x hx
  rw [List.all_eq_true]
  intro y hy
  obtain ⟨p, _, rfl⟩ := List.mem_map.mp hx
  obtain ⟨q, _, rfl⟩ := List.mem_map.mp hy
  exact okC_T p q
/-! ### sorted vectors -/
noncomputable def srtB (l : List Bg) : List Bg := l.mergeSort fun a b => !decide (b < a)
theorem srt_T (l : List Bg) : srtD (l.map encT) = (srtB l).map encT := by
  unfold srtD srtB
  refine (List.map_mergeSort (fun a _ b _ => ?_)).symm
  rw [PySem.W.dataLe_eq]
  show (!decide (b < a)) = (!PySem.W.dataLt (encT b) (encT a))
  rw [lt_T]
theorem ok_sort {l : List Bg} (h : ∀ b ∈ l, b ≠ []) : okL (l.map encT) = true ∧ (tupB (l.map encT) || othB (l.map encT)) = true := by
  refine ⟨okL_T l, ?_⟩
  rw [Bool.or_eq_true]
  left
  unfold tupB
  rw [List.all_eq_true]
  intro x hx
  obtain ⟨p, hp, rfl⟩ := List.mem_map.mp hx
  cases p with
  | nil => exact absurd rfl (h _ hp)
  | cons a r => rfl
theorem srtB_perm (l : List Bg) : (srtB l).Perm l := List.mergeSort_perm _ _
theorem srtB_lt {l : List Bg} (nd : l.Nodup) : (srtB l).Pairwise (· < ·) := by
  have h1 : (srtB l).Pairwise fun a b => (!decide (b < a)) = true := List.pairwise_mergeSort (fun a b c h1 h2 => by
    simp only [Bool.not_eq_true', decide_eq_false_iff_not] at h1 h2 ⊢
    intro h3
    rcases TB.tri b c with z | z | z
    · exact h1 (TB.tr _ _ _ z h3)
    · rw [z] at h1; exact h1 h3
    · exact h2 z) (fun a b => by
    simp only [Bool.or_eq_true, Bool.not_eq_true', decide_eq_false_iff_not]
    by_cases h : b < a
    · right
      intro h2
      exact TB.irr _ (TB.tr _ _ _ h h2)
    · exact .inl h) l
  have h2 : (srtB l).Nodup := (srtB_perm l).nodup_iff.mpr nd
  exact (h1.and h2).imp fun {a b} ⟨p, q⟩ => by
    simp only [Bool.not_eq_true', decide_eq_false_iff_not] at p
    rcases TB.tri a b with z | z | z
    · exact z
    · exact absurd z q
    · exact absurd z p
theorem e_sortB {a : Ex} {l : List Bg} {ρ : Nv} {g g1 : DL.G} (h : a ρ g = .ok (.list (l.map encT)) g1) (hl : ∀ b ∈ l, b ≠ []) : sortDO a ρ g = .ok (.lst ((srtB l).map encT)) g1 := by
  unfold sortDO
  rw [h]
  show (if okL (l.map encT) = true ∧ (tupB (l.map encT) || othB (l.map encT)) = true then R.ok (Ob.lst (srtD (l.map encT))) g1 else .bad) = _
  rw [if_pos (ok_sort hl), srt_T]
theorem geD_T (b c : Bg) : geDD (encT b) (encT c) = some (.bool (!decide (b < c))) := by
  unfold geDD
  rw [if_pos (okC_T b c), lt_T]
/-! ### the checks -/
section
variable {g : DL.G} {d : Nat} {r v rest b : Bg} {rs : List Bg}
structure Bv (d : Nat) (b : Bd) : Prop where
  bu : Bu d b
  srt : b.2.Pairwise (· < ·)
theorem between_int {v a b : Int} : m_is_between [.int v, .int a, .int b] g = .ok (.bool (decide (a ≤ v) && decide (v ≤ b))) g := by
  simp [m_is_between, b_is_between, isT]
  by_cases h : a ≤ v
  · simp [h]
  · simp [h]
def rowB (n : Nat) (lo hi : Int) (b : Bg) : Bool := decide (b.length = n) && b.all fun x => decide (lo ≤ x) && decide (x ≤ hi)
theorem row_ok {lo hi : Int} {n : Nat} (hl : b.length ≤ 1000) : m_is_row [encT b, natD n, .int lo, .int hi] g = .ok (.bool (rowB n lo hi b)) g := by
  unfold m_is_row
  refine f_rt ?_
  unfold b_is_row
  show seqS _ _ [.sh (encT b), .sh (natD n), .sh (.int lo), .sh (.int hi), .no] g = _
  have hlen : unD lenD (varD 0) [.sh (encT b), .sh (natD n), .sh (.int lo), .sh (.int hi), .no] g = .ok (natD b.length) g := e_un (e_var rfl) (len_T b)
  have hne : neD (natD b.length) (natD n) = some (.bool (!decide (b.length = n))) := by
    rw [neI]
    congr 3
    exact decide_eq_decide.mpr (by omega)
  have e1 : orT (notT (truthD (unD (isiD "tuple") (varD 0)))) (boolD (opD neD (unD lenD (varD 0)) (varD 1))) [.sh (encT b), .sh (natD n), .sh (.int lo), .sh (.int hi), .no] g = .ok (false || !decide (b.length = n)) g :=
    e_or (e_not (b := true) (e_truth (d := .bool true) (e_un (x := encT b) (e_var rfl) rfl) rfl)) fun _ => e_bool (e_op hlen (e_var rfl) hne)
  refine s_guard (k := false || !decide (b.length = n)) e1 (fun e => ?_) fun e => ?_
  · have : decide (b.length = n) = false := by simpa using e
    unfold rowB
    rw [this]
    rfl
  · have : decide (b.length = n) = true := by simpa using e
    have c := e_compF (ρ := [.sh (encT b), .sh (natD n), .sh (.int lo), .sh (.int hi), .no]) (g := g) (fi := itemsD (varD 0)) (own := [4]) (t := nameT 4) (c := notT (truthD (callD 3 m_is_between (consD (varD 4) (consD (varD 2) (consD (varD 3) nilD)))))) (e := varD 4) PyData.int (fun x => !(decide (lo ≤ x) && decide (x ≤ hi))) PyData.int b (e_itemsT (e_var rfl)) (by omega) fun x _ => ⟨_, rfl, e_not (e_truth (e_call (e_cons (e_var rfl) (e_cons (e_var rfl) (e_cons (e_var rfl) e_nil))) rfl between_int) rfl), fun _ => e_var rfl⟩
    refine s_ret (e_op (e_share c) (e_share (e_lst e_nil rfl)) ?_)
    unfold rowB
    rw [eq_empty int_lay, List.isEmpty_map, this, Bool.true_and]
    congr 2
    rw [Bool.eq_iff_iff, List.isEmpty_iff, List.filter_eq_nil_iff, List.all_eq_true]
    refine forall_congr' fun x => forall_congr' fun _ => ?_
    cases (decide (lo ≤ x) && decide (x ≤ hi)) <;> simp
theorem rowB_of {lo hi : Int} {n : Nat} (h1 : b.length = n) (h2 : ∀ x ∈ b, lo ≤ x ∧ x ≤ hi) : rowB n lo hi b = true := by
  unfold rowB
  rw [Bool.and_eq_true, decide_eq_true_eq, List.all_eq_true]
  refine ⟨h1, fun x hx => ?_⟩
  rw [Bool.and_eq_true, decide_eq_true_eq, decide_eq_true_eq]
  exact h2 x hx
theorem isBundle_ok {b : Bd} (h : Bv d b) : m_is_bundle [encBd b] g = .ok (.bool true) g := by
  have B := h.bu
  have hd1 := B.d1
  have hd3 := B.d3
  have hf := B.few
  unfold m_is_bundle
  refine f_rt ?_
  unfold b_is_bundle
  show seqS _ _ [.sh (encBd b), .no, .no, .no] g = _
  have i0 : ∀ {ρ : Nv}, ρ[0]? = some (.sh (encBd b)) → opD ixD (varD 0) (constD (.int 0)) ρ g = .ok (encT b.1) g := fun h => e_op (e_var h) e_const (ix0 _ _)
  have i1 : ∀ {ρ : Nv}, ρ[0]? = some (.sh (encBd b)) → opD ixD (varD 0) (constD (.int 1)) ρ g = .ok (raysD b.2) g := fun h => e_op (e_var h) e_const (ix1 _ _ _)
  have r0 := row_ok (g := g) (b := b.1) (n := d) (lo := 0) (hi := 1000000) (by have := B.len; omega)
  rw [rowB_of B.len B.nn] at r0
  refine Eq.trans (seq_eq (s_skip (e_or (x := false) (y := false) (e_not (b := true) (e_truth (d := .bool true) (e_un (x := encBd b) (e_var rfl) rfl) rfl)) fun _ => e_or (x := false) (y := false) (e_bool (e_op (e_un (x := encBd b) (e_var rfl) rfl) e_const rfl)) fun _ => e_not (b := true) (e_truth (d := .bool true) (e_un (i0 rfl) rfl) rfl)))) ?_
  refine s_set (e_un (i0 rfl) (len_T b.1)) ?_
  rw [B.len]
  have ch : chainD leDD leDD (constD (.int 1)) (varD 1) (constD (.int 3)) [.sh (encBd b), .sh (natD d), .no, .no] g = .ok (.bool (true && true)) g := e_chain e_const (e_var rfl) (by rw [leD_I, decide_eq_true (by omega)]) e_const (by rw [leD_I, decide_eq_true (by omega)])
  refine Eq.trans (seq_eq (s_skip (e_or (x := false) (y := false) (e_not (b := true) (e_bool ch)) fun _ => e_not (b := true) (e_truth (e_call (e_cons (i0 rfl) (e_cons (e_var rfl) (e_cons e_const (e_cons e_const e_nil)))) rfl r0) rfl)))) ?_
  refine Eq.trans (seq_eq (s_skip (e_or (x := false) (y := false) (e_not (b := true) (e_truth (d := .bool true) (e_un (i1 rfl) rfl) rfl)) fun _ => e_bool (e_op (e_un (i1 rfl) (len_rays b.2)) e_const (by rw [gtD_I, decide_eq_false (by omega)]))))) ?_
  have c1 := e_comp0 (ρ := [.sh (encBd b), .sh (natD d), .no, .no]) (g := g) (fi := itemsD (opD ixD (varD 0) (constD (.int 1)))) (own := [2]) (t := nameT 2) (c := orT (notT (truthD (callD 4 m_is_row (consD (varD 2) (consD (varD 1) (consD (constD (.int 0)) (consD (constD (.int 10000)) nilD))))))) (boolD (opD eqD (unD maxDD (varD 2)) (constD (.int 0))))) (e := varD 2) encT b.2 (e_items (i1 rfl)) (by omega) fun r hr => by
    have R := B.rs r hr
    have r1 := row_ok (g := g) (b := r) (n := d) (lo := 0) (hi := 10000) (by have := R.len; omega)
    rw [rowB_of R.len R.nn] at r1
    obtain ⟨m, m1, m2, _, m3⟩ := max_I (bx_ne R.len hd1)
    obtain ⟨x, x1, x2⟩ := R.pos
    have := m2 x x1
    exact ⟨_, rfl, e_or (x := false) (y := false) (e_not (b := true) (e_truth (e_call (e_cons (e_var rfl) (e_cons (e_var rfl) (e_cons e_const (e_cons e_const e_nil)))) rfl r1) rfl)) fun _ => e_bool (e_op (e_un (e_var rfl) m3) e_const (by rw [eqI, decide_eq_false (by omega)]))⟩
  refine Eq.trans (seq_eq (s_skip (e_truth (e_share c1) rfl))) ?_
  have c2 := e_comp0 (ρ := [.sh (encBd b), .sh (natD d), .no, .no]) (g := g) (fi := range2D (constD (.int 1)) (unD lenD (opD ixD (varD 0) (constD (.int 1))))) (own := [3]) (t := nameT 3) (c := boolD (opD geDD (opD ixD (opD ixD (varD 0) (constD (.int 1))) (opD subD (varD 3) (constD (.int 1)))) (opD ixD (opD ixD (varD 0) (constD (.int 1))) (varD 3)))) (e := varD 3) (fun k => natD (k + 1)) (List.range (b.2.length - 1)) (e_up (e_un (i1 rfl) (len_rays b.2)) (by omega)) (by rw [List.length_range]; omega) fun k hk => by
    have hk := List.mem_range.mp hk
    have lt := List.pairwise_iff_getElem.mp h.srt k (k + 1) (by omega) (by omega) (by omega)
    refine ⟨_, rfl, e_bool (e_op (e_op (i1 rfl) (e_op (e_var rfl) e_const (subI _ _)) ?_) (e_op (i1 rfl) (e_var rfl) (ix_rays (List.getElem?_eq_getElem (by omega)))) (by rw [geD_T, decide_eq_true lt]; rfl))⟩
    rw [show (((k + 1 : Nat) : Int)) - 1 = ((k : Nat) : Int) by omega]
    exact ix_rays (List.getElem?_eq_getElem (by omega))
  exact s_ret (e_op (e_share c2) (e_share (e_lst e_nil rfl)) rfl)
end
end K

set_option Elab.async false
set_option linter.all false
set_option maxRecDepth 100000
set_option maxHeartbeats 400000
namespace K
open PySem DL PyProof.Rows
section
variable {g : DL.G} {d : Nat} {r v rest : Bg} {rs : List Bg} {bs : List Bd} {b : Bd}
abbrev bundlesD (bs : List Bd) : PyData := .list (bs.map encBd)
theorem checkBundle_ok (h : Bv d b) : m_check_bundle [encBd b] g = .ok .none g := by
  unfold m_check_bundle
  refine f_nx (ρ1 := [.sh (encBd b)]) ?_
  unfold b_check_bundle
  exact s_skip (e_not (b := true) (e_truth (e_call (e_cons (e_var rfl) e_nil) rfl (isBundle_ok h)) rfl))
theorem checkVector_ok (hv : Bx d v) (hd : d ≤ 3) : m_check_vector [encT v, natD d] g = .ok .none g := by
  unfold m_check_vector
  refine f_nx (ρ1 := [.sh (encT v), .sh (natD d)]) ?_
  unfold b_check_vector
  have r0 := row_ok (g := g) (b := v) (n := d) (lo := 0) (hi := 40) (by have := hv.len; omega)
  rw [rowB_of hv.len hv.nn] at r0
  exact s_skip (e_not (b := true) (e_truth (e_call (e_cons (e_var rfl) (e_cons (e_var rfl) (e_cons e_const (e_cons e_const e_nil)))) rfl r0) rfl))
theorem places_ok (b : Bd) : m_places_of [encBd b] g = .ok (natD b.1.length) g := by
  unfold m_places_of
  refine f_rt ?_
  unfold b_places_of
  exact s_ret (e_un (e_op (e_var rfl) e_const (ix0 _ _)) (len_T b.1))
theorem countsFor_ok (h : Bv d b) (hv : Bx d v) : m_counts_for [encBd b, encT v] g = .ok (optC (cT b.1 b.2 v)) g := by
  unfold m_counts_for
  refine f_rt ?_
  unfold b_counts_for
  have pl := places_ok (g := g) b
  rw [h.bu.len] at pl
  exact s_drop (e_call (e_cons (e_var rfl) e_nil) rfl (checkBundle_ok h)) (s_drop (e_call (e_cons (e_var rfl) (e_cons (e_call (e_cons (e_var rfl) e_nil) rfl pl) e_nil)) rfl (checkVector_ok hv h.bu.d3)) (s_ret (e_call (e_cons (e_var rfl) (e_cons (e_var rfl) e_nil)) rfl (told_ok h.bu hv))))
theorem len_bundles (bs : List Bd) : lenD (bundlesD bs) = some (natD bs.length) := by
  show some (PyData.int (((bs.map encBd).length : Nat) : Int)) = _
  rw [List.length_map]
theorem ix_bundles {k : Nat} {b : Bd} (h : bs[k]? = some b) : ixD (bundlesD bs) (natD k) = some (encBd b) := ix_map encBd bs k b h
theorem checkBundles_ok (hb : ∀ b ∈ bs, Bv d b) (hl : bs.length ≤ 400) : m_check_bundles [bundlesD bs] g = .ok .none g := by
  unfold m_check_bundles
  refine f_nx (ρ1 := [.sh (bundlesD bs), .no]) ?_
  unfold b_check_bundles
  show seqS _ _ [.sh (bundlesD bs), .no] g = _
  have c1 := e_comp0 (ρ := [.sh (bundlesD bs), .no]) (g := g) (fi := itemsD (varD 0)) (own := [1]) (t := nameT 1) (c := notT (truthD (callD 1 m_is_bundle (consD (varD 1) nilD)))) (e := varD 1) encBd bs (e_items (e_var rfl)) (by omega) fun b hb' => ⟨_, rfl, e_not (b := true) (e_truth (e_call (e_cons (e_var rfl) e_nil) rfl (isBundle_ok (hb b hb'))) rfl)⟩
  have c2 := e_comp0 (ρ := [.sh (bundlesD bs), .no]) (g := g) (fi := itemsD (varD 0)) (own := [1]) (t := nameT 1) (c := boolD (opD neD (callD 1 m_places_of (consD (varD 1) nilD)) (callD 1 m_places_of (consD (opD ixD (varD 0) (constD (.int 0))) nilD)))) (e := varD 1) encBd bs (e_items (e_var rfl)) (by omega) fun b hb' => by
    obtain ⟨b0, h0⟩ : ∃ b0, bs[0]? = some b0 := by
      cases bs with
      | nil => cases hb'
      | cons x r => exact ⟨x, rfl⟩
    have p1 := places_ok (g := g) b
    have p2 := places_ok (g := g) b0
    rw [(hb b hb').bu.len] at p1
    rw [(hb b0 (List.mem_of_getElem? h0)).bu.len] at p2
    refine ⟨_, rfl, e_bool (e_op (e_call (e_cons (e_var rfl) e_nil) rfl p1) (e_call (e_cons (e_op (e_var rfl) e_const (ix_bundles h0)) e_nil) rfl p2) ?_)⟩
    rw [neI, decide_eq_true rfl]
    rfl
  refine Eq.trans (seq_eq (s_skip (e_or (x := false) (y := false) (e_not (b := true) (e_truth (d := .bool true) (e_un (x := bundlesD bs) (e_var rfl) rfl) rfl)) fun _ => e_or (x := false) (y := false) (e_bool (e_op (e_un (e_var rfl) (len_bundles bs)) e_const (by rw [gtI, decide_eq_false (by omega)]))) fun _ => e_truth (e_share c1) rfl))) ?_
  exact s_skip (e_truth (e_share c2) rfl)
theorem checkAsked_ok (hb : ∀ b ∈ bs, Bv d b) (hl : bs.length ≤ 400) (hv : Bx d v) (d1 : 1 ≤ d) (d3 : d ≤ 3) : m_check_asked [bundlesD bs, encT v] g = .ok .none g := by
  unfold m_check_asked
  refine f_nx (ρ1 := [.sh (bundlesD bs), .sh (encT v), .sh (natD d)]) ?_
  unfold b_check_asked
  show seqS _ _ [.sh (bundlesD bs), .sh (encT v), .no] g = _
  have hm : ifD (truthD (varD 0)) (callD 1 m_places_of (consD (opD ixD (varD 0) (constD (.int 0))) nilD)) (ifD (truthD (unD (isiD "tuple") (varD 1))) (unD lenD (varD 1)) (constD (.int 0))) [.sh (bundlesD bs), .sh (encT v), .no] g = .ok (natD d) g := by
    cases hbs : bs with
    | nil =>
      refine e_if (k := false) (e_truth (e_var rfl) rfl) (fun z => by cases z) fun _ => e_if (k := true) (e_truth (d := .bool true) (e_un (x := encT v) (e_var rfl) rfl) rfl) (fun _ => ?_) fun z => by cases z
      have := e_un (ρ := [.sh (bundlesD []), .sh (encT v), .no]) (g := g) (e_var (i := 1) rfl) (len_T v)
      rw [hv.len] at this
      exact this
    | cons x r =>
      have p1 := places_ok (g := g) x
      rw [(hb x (by rw [hbs]; simp)).bu.len] at p1
      exact e_if (k := true) (e_truth (e_var rfl) rfl) (fun _ => e_call (e_cons (e_op (e_var rfl) e_const (ix0L _ _)) e_nil) rfl p1) fun z => by cases z
  refine s_drop (e_call (e_cons (e_var rfl) e_nil) rfl (checkBundles_ok hb hl)) (s_set hm ?_)
  have ch : chainD (cmpD fun i j => decide (i ≤ j)) (cmpD fun i j => decide (i ≤ j)) (constD (.int 1)) (varD 2) (constD (.int 3)) [.sh (bundlesD bs), .sh (encT v), .sh (natD d)] g = .ok (.bool (true && true)) g := e_chain e_const (e_var rfl) (by rw [le2, decide_eq_true (by omega)]) e_const (by rw [le2, decide_eq_true (by omega)])
  refine Eq.trans (seq_eq (s_skip (e_not (b := true) (e_bool ch)))) ?_
  exact drop_ok (e_call (e_cons (e_var rfl) (e_cons (e_var rfl) e_nil)) rfl (checkVector_ok hv d3))
def cTk (bs : List Bd) (v : Bg) (k : Nat) : Option (List Int) := match bs[k]? with
  | some b => cT b.1 b.2 v
  | none => none
def wayK (bs : List Bd) (v : Bg) : Option Nat := (List.range bs.length).find? fun k => (cTk bs v k).isSome
def wayD (bs : List Bd) (v : Bg) : PyData := match wayK bs v with
  | some k => .tuple [natD k, optC (cTk bs v k)]
  | none => .none
theorem wayTold_ok (hb : ∀ b ∈ bs, Bv d b) (hl : bs.length ≤ 400) (hv : Bx d v) : m_way_told [bundlesD bs, encT v] g = .ok (wayD bs v) g := by
  unfold m_way_told
  refine f_rt ?_
  unfold b_way_told
  show seqS _ _ [.sh (bundlesD bs), .sh (encT v), .no, .no] g = _
  have hi : rangeD (unD lenD (varD 0)) [.sh (bundlesD bs), .sh (encT v), .no, .no] g = .ok ((List.range bs.length).map natD) g := e_rangeN (e_un (e_var rfl) (len_bundles bs)) (by omega)
  have hf := forD_find (t := nameT 2) (body := seqS (setS 3 (callD 2 m_counts_told (consD (opD ixD (varD 0) (varD 2)) (consD (varD 1) nilD))))
  (ifS (boolD (unD notNoneD (varD 3)))
  (retS (tupD (consD (varD 2) (consD (varD 3) nilD))))
  nextS)) natD (fun ρ => ∃ x2 x3, ρ = [.sh (bundlesD bs), .sh (encT v), x2, x3]) (fun k => (cTk bs v k).isSome) (fun k => .tuple [natD k, optC (cTk bs v k)]) g (List.range bs.length)
    (by
      rintro k hk ρ ⟨x2, x3, rfl⟩
      have hk := List.mem_range.mp hk
      have hg := List.getElem?_eq_getElem hk
      have B := hb _ (List.getElem_mem hk)
      have et : cTk bs v k = cT bs[k].1 bs[k].2 v := by unfold cTk; rw [hg]
      have e1 : callD 2 m_counts_told (consD (opD ixD (varD 0) (varD 2)) (consD (varD 1) nilD)) [.sh (bundlesD bs), .sh (encT v), .sh (natD k), x3] g = .ok (optC (cTk bs v k)) g := by
        rw [et]
        exact e_call (e_cons (e_op (e_var rfl) (e_var rfl) (ix_bundles hg)) (e_cons (e_var rfl) e_nil)) rfl (told_ok B.bu hv)
      refine ⟨[.sh (bundlesD bs), .sh (encT v), .sh (natD k), x3], [.sh (bundlesD bs), .sh (encT v), .sh (natD k), .sh (optC (cTk bs v k))], rfl, ⟨_, _, rfl⟩, ?_⟩
      generalize cTk bs v k = o at e1
      cases o with
      | none => exact s_set e1 (s_skip (e_bool (e_un (e_var rfl) rfl)))
      | some c => exact s_set e1 (Eq.trans (if_yes (e_bool (e_un (e_var rfl) rfl))) (s_ret (e_tup (e_cons (e_var rfl) (e_cons (e_var rfl) e_nil)) rfl)))) [.sh (bundlesD bs), .sh (encT v), .no, .no] ⟨_, _, rfl⟩
  unfold wayD wayK
  rcases hf with ⟨k, h1, h2⟩ | ⟨h1, ρ', ⟨x2, x3, rfl⟩, h2⟩
  · rw [h1]
    refine seq_rt ?_
    unfold forS
    rw [hi]
    exact h2
  · rw [h1]
    exact Eq.trans (seq_eq (for_run hi h2)) (s_ret e_const)
theorem wayIn_ok (hb : ∀ b ∈ bs, Bv d b) (hl : bs.length ≤ 400) (hv : Bx d v) (d1 : 1 ≤ d) (d3 : d ≤ 3) : m_way_in [bundlesD bs, encT v] g = .ok (wayD bs v) g := by
  unfold m_way_in
  refine f_rt ?_
  unfold b_way_in
  exact s_drop (e_call (e_cons (e_var rfl) (e_cons (e_var rfl) e_nil)) rfl (checkAsked_ok hb hl hv d1 d3)) (s_ret (e_call (e_cons (e_var rfl) (e_cons (e_var rfl) e_nil)) rfl (wayTold_ok hb hl hv)))
theorem hasVector_ok (hb : ∀ b ∈ bs, Bv d b) (hl : bs.length ≤ 400) (hv : Bx d v) (d1 : 1 ≤ d) (d3 : d ≤ 3) : m_has_vector [bundlesD bs, encT v] g = .ok (.bool (wayK bs v).isSome) g := by
  unfold m_has_vector
  refine f_rt ?_
  unfold b_has_vector
  refine s_drop (e_call (e_cons (e_var rfl) (e_cons (e_var rfl) e_nil)) rfl (checkAsked_ok hb hl hv d1 d3)) (s_ret (e_un (e_call (e_cons (e_var rfl) (e_cons (e_var rfl) e_nil)) rfl (wayTold_ok hb hl hv)) ?_))
  unfold wayD
  cases wayK bs v <;> rfl
end
end K

set_option Elab.async false
set_option linter.all false
set_option maxRecDepth 100000
set_option maxHeartbeats 400000
namespace K
open PySem DL PyProof.Rows
theorem sum_nn : ∀ {b : Bg}, (∀ x ∈ b, 0 ≤ x) → 0 ≤ b.sum
  | [], _ => by simp
  | x :: r, h => by
    have h1 := h x (by simp)
    have h2 := sum_nn (b := r) fun y hy => h y (by simp [hy])
    rw [List.sum_cons]
    omega
theorem le_sum : ∀ {b : Bg}, (∀ x ∈ b, 0 ≤ x) → ∀ x ∈ b, x ≤ b.sum
  | [], _, x, hx => nomatch hx
  | y :: r, h, x, hx => by
    have h1 := h y (by simp)
    have h2 := sum_nn (b := r) fun y hy => h y (by simp [hy])
    rw [List.sum_cons]
    rcases List.mem_cons.mp hx with rfl | hx
    · omega
    · have := le_sum (b := r) (fun y hy => h y (by simp [hy])) x hx
      omega
section
variable {g : DL.G} {d : Nat} {r v rest : Bg} {rs : List Bg} {bs : List Bd} {b : Bd} {c : List Int}
/-! ### is_way_in and the law's own judging -/
def madeN (base : Bg) (rays : List Bg) (c : List Int) : Nat → Bg
  | 0 => base
  | m + 1 => addV (madeN base rays c m) (rays[m]?.getD []) (at0 c m)
theorem madeN_len (base : Bg) (rays : List Bg) (c : List Int) : ∀ m, (madeN base rays c m).length = base.length
  | 0 => rfl
  | m + 1 => by unfold madeN; rw [addV_len, madeN_len base rays c m]
theorem at0_made {base : Bg} {i : Nat} (hi : i < base.length) (rays : List Bg) (c : List Int) : ∀ m, at0 (madeN base rays c m) i = at0 base i + ((List.range m).map fun j => at0 c j * at0 (rays[j]?.getD []) i).sum
  | 0 => by simp [madeN]
  | m + 1 => by
    unfold madeN
    rw [at0_addV (by rw [madeN_len]; exact hi), at0_made hi rays c m, List.range_succ, List.map_append, List.sum_append]
    simp
    omega
def sumV (base : Bg) (rays : List Bg) (c : List Int) : Bg := (List.range base.length).map fun i => at0 base i + ((List.range rays.length).map fun j => at0 c j * at0 (rays[j]?.getD []) i).sum
theorem sumV_made (base : Bg) (rays : List Bg) (c : List Int) : sumV base rays c = madeN base rays c rays.length := by
  have hl : (sumV base rays c).length = base.length := by unfold sumV; rw [List.length_map, List.length_range]
  refine ext_at0 (by rw [hl, madeN_len]) fun i hi => ?_
  rw [hl] at hi
  rw [at0_made hi]
  unfold sumV
  show (((List.range base.length).map fun i => at0 base i + ((List.range rays.length).map fun j => at0 c j * at0 (rays[j]?.getD []) i).sum)[i]?).getD 0 = _
  rw [List.getElem?_map, List.getElem?_range hi]
  rfl
def rightB (b : Bd) (v : Bg) (c : List Int) : Bool := decide (c.length = b.2.length) && (c.all fun x => decide (0 ≤ x)) && decide (v = sumV b.1 b.2 c)
theorem right_iff (h : Bu d b) (hv : Bx d v) : (rowB b.2.length 0 40 c && decide (madeN b.1 b.2 c b.2.length = v)) = rightB b v c := by
  unfold rightB rowB
  rw [sumV_made, Bool.eq_iff_iff]
  simp only [Bool.and_eq_true, decide_eq_true_eq, List.all_eq_true]
  constructor
  · rintro ⟨⟨h1, h2⟩, h3⟩
    exact ⟨⟨h1, fun x hx => (h2 x hx).1⟩, h3.symm⟩
  · rintro ⟨⟨h1, h2⟩, h3⟩
    refine ⟨⟨h1, fun x hx => ⟨h2 x hx, ?_⟩⟩, h3.symm⟩
    obtain ⟨j, hj, rfl⟩ := mem_at0 hx
    have hj' : j < b.2.length := by omega
    have R := h.rs _ (List.getElem_mem hj')
    obtain ⟨y, hy, hp⟩ := R.pos
    obtain ⟨i, hi, rfl⟩ := mem_at0 hy
    have hi' : i < b.1.length := by rw [h.len, ← R.len]; exact hi
    have hvi : i < v.length := by rw [hv.len, ← R.len]; exact hi
    have e1 := at0_made hi' b.2 c b.2.length
    rw [← h3] at e1
    have hv40 := (hv.nn _ (at0_mem hvi)).2
    have hb0 := (h.nn _ (at0_mem hi')).1
    have hnn : ∀ x ∈ (List.range b.2.length).map fun j => at0 c j * at0 (b.2[j]?.getD []) i, 0 ≤ x := fun x hx => by
      obtain ⟨k, hk, rfl⟩ := List.mem_map.mp hx
      have hk := List.mem_range.mp hk
      have hck := h2 _ (at0_mem (v := c) (k := k) (by omega))
      have hrk := (h.rs _ (List.getElem_mem hk)).nnk i
      rw [List.getElem?_eq_getElem hk]
      exact Int.mul_nonneg hck hrk
    have hge := le_sum hnn (at0 c j * at0 (b.2[j]?.getD []) i) (List.mem_map.mpr ⟨j, List.mem_range.mpr hj', rfl⟩)
    have hcj := h2 _ (at0_mem hj)
    have e2 : at0 (b.2[j]?.getD []) i = at0 b.2[j] i := by rw [List.getElem?_eq_getElem hj']; rfl
    rw [e2] at hge
    have h4 : at0 c j * 1 ≤ at0 c j * at0 b.2[j] i := Int.mul_le_mul_of_nonneg_left (by omega) hcj
    omega
/-! the program's -/
abbrev wiI (bs : List Bd) (v : Bg) (val : PyData) : Nv := [.sh (bundlesD bs), .sh (encT v), .sh val, .no, .no, .no, .no]
abbrev lrI (bs : List Bd) (v : Bg) (val : PyData) : Nv := [.sh (bundlesD bs), .sh (encT v), .sh val, .no, .no, .no, .no, .no, .no]
structure Cm (d : Nat) (bs : List Bd) (v : Bg) : Prop where
  hb : ∀ b ∈ bs, Bv d b
  hl : bs.length ≤ 400
  hv : Bx d v
  d1 : 1 ≤ d
  d3 : d ≤ 3
theorem wi_guard (C : Cm d bs v) {val : PyData} (h : orT (notT (truthD (unD (isiD "tuple") (varD 2)))) (orT (boolD (opD neD (unD lenD (varD 2)) (constD (.int 2)))) (notT (truthD (callD 3 m_is_between (consD (opD ixD (varD 2) (constD (.int 0))) (consD (constD (.int 0)) (consD (opD subD (unD lenD (varD 0)) (constD (.int 1))) nilD))))))) (wiI bs v val) g = .ok true g) : m_is_way_in [bundlesD bs, encT v, val] g = .ok (.bool false) g := by
  unfold m_is_way_in
  refine f_rt ?_
  unfold b_is_way_in
  exact s_drop (e_call (e_cons (e_var rfl) (e_cons (e_var rfl) e_nil)) rfl (checkAsked_ok C.hb C.hl C.hv C.d1 C.d3)) (seq_rt (Eq.trans (if_yes h) (s_ret e_const)))
theorem lr_guard {val : PyData} (h : orT (notT (truthD (unD (isiD "tuple") (varD 2)))) (orT (boolD (opD neD (unD lenD (varD 2)) (constD (.int 2)))) (orT (truthD (unD (isiD "bool") (opD ixD (varD 2) (constD (.int 0))))) (orT (notT (truthD (unD (isiD "int") (opD ixD (varD 2) (constD (.int 0)))))) (notT (boolD (chainD (cmpD fun i j => decide (i ≤ j)) (cmpD fun i j => decide (i < j)) (constD (.int 0)) (opD ixD (varD 2) (constD (.int 0))) (unD lenD (varD 0)))))))) (lrI bs v val) g = .ok true g) : m_law_right [bundlesD bs, encT v, val] g = .ok (.bool false) g := by
  unfold m_law_right
  refine f_rt ?_
  unfold b_law_right
  exact seq_rt (Eq.trans (if_yes h) (s_ret e_const))
/-- both judge alike -/
def Alike (bs : List Bd) (v : Bg) (g : DL.G) (val : PyData) : Prop := ∃ k : Bool, m_is_way_in [bundlesD bs, encT v, val] g = .ok (.bool k) g ∧ m_law_right [bundlesD bs, encT v, val] g = .ok (.bool k) g
theorem al_no (C : Cm d bs v) {val : PyData} (h : isT "tuple" val = false) : Alike bs v g val := by
  have e : ∀ {ρ : Nv}, ρ[2]? = some (.sh val) → notT (truthD (unD (isiD "tuple") (varD 2))) ρ g = .ok true g := fun hρ => by
    refine e_not (b := false) (e_truth (d := .bool false) (e_un (e_var hρ) ?_) rfl)
    show some (PyData.bool (isT "tuple" val)) = _
    rw [h]
  exact ⟨false, wi_guard C (orT_yes (e rfl)), lr_guard (orT_yes (e rfl))⟩
theorem is_tup {ds : List PyData} {ρ : Nv} {i : Nat} (h : ρ[i]? = some (.sh (.tuple ds))) : notT (truthD (unD (isiD "tuple") (varD i))) ρ g = .ok false g := e_not (b := true) (e_truth (d := .bool true) (e_un (x := .tuple ds) (e_var h) rfl) rfl)
theorem al_len (C : Cm d bs v) (x : PyData) : Alike bs v g (.tuple [x]) := by
  have e2 : ∀ {ρ : Nv}, ρ[2]? = some (.sh (.tuple [x])) → boolD (opD neD (unD lenD (varD 2)) (constD (.int 2))) ρ g = .ok true g := fun hρ => e_bool (e_op (e_un (e_var hρ) rfl) e_const rfl)
  exact ⟨false, wi_guard C (Eq.trans (orT_no (is_tup rfl)) (orT_yes (e2 rfl))), lr_guard (Eq.trans (orT_no (is_tup rfl)) (orT_yes (e2 rfl)))⟩
theorem two_len {x y : PyData} {ρ : Nv} (hρ : ρ[2]? = some (.sh (.tuple [x, y]))) : boolD (opD neD (unD lenD (varD 2)) (constD (.int 2))) ρ g = .ok false g := e_bool (e_op (e_un (e_var hρ) rfl) e_const rfl)
theorem two_0 {x y : PyData} {ρ : Nv} (hρ : ρ[2]? = some (.sh (.tuple [x, y]))) : opD ixD (varD 2) (constD (.int 0)) ρ g = .ok x g := e_op (e_var hρ) e_const (ix0 _ _)
theorem two_1 {x y : PyData} {ρ : Nv} (hρ : ρ[2]? = some (.sh (.tuple [x, y]))) : opD ixD (varD 2) (constD (.int 1)) ρ g = .ok y g := e_op (e_var hρ) e_const (ix1 _ _ _)
theorem len_m1 {ρ : Nv} (hρ : ρ[0]? = some (.sh (bundlesD bs))) : opD subD (unD lenD (varD 0)) (constD (.int 1)) ρ g = .ok (.int ((bs.length : Int) - 1)) g := e_op (e_un (e_var hρ) (len_bundles bs)) e_const (subI _ _)
theorem wi_num {ρ : Nv} {z : Int} {y : PyData} (h0 : ρ[0]? = some (.sh (bundlesD bs))) (h2 : ρ[2]? = some (.sh (.tuple [.int z, y]))) : orT (notT (truthD (unD (isiD "tuple") (varD 2)))) (orT (boolD (opD neD (unD lenD (varD 2)) (constD (.int 2)))) (notT (truthD (callD 3 m_is_between (consD (opD ixD (varD 2) (constD (.int 0))) (consD (constD (.int 0)) (consD (opD subD (unD lenD (varD 0)) (constD (.int 1))) nilD))))))) ρ g = .ok (!(decide (0 ≤ z) && decide (z ≤ (bs.length : Int) - 1))) g :=
  Eq.trans (orT_no (is_tup h2)) (Eq.trans (orT_no (two_len h2)) (e_not (e_truth (e_call (e_cons (two_0 h2) (e_cons e_const (e_cons (len_m1 h0) e_nil))) rfl between_int) rfl)))
theorem lr_num {ρ : Nv} {z : Int} {y : PyData} (h0 : ρ[0]? = some (.sh (bundlesD bs))) (h2 : ρ[2]? = some (.sh (.tuple [.int z, y]))) : orT (notT (truthD (unD (isiD "tuple") (varD 2)))) (orT (boolD (opD neD (unD lenD (varD 2)) (constD (.int 2)))) (orT (truthD (unD (isiD "bool") (opD ixD (varD 2) (constD (.int 0))))) (orT (notT (truthD (unD (isiD "int") (opD ixD (varD 2) (constD (.int 0)))))) (notT (boolD (chainD (cmpD fun i j => decide (i ≤ j)) (cmpD fun i j => decide (i < j)) (constD (.int 0)) (opD ixD (varD 2) (constD (.int 0))) (unD lenD (varD 0)))))))) ρ g = .ok (!(decide (0 ≤ z) && decide (z < (bs.length : Int)))) g :=
  Eq.trans (orT_no (is_tup h2)) (Eq.trans (orT_no (two_len h2)) (Eq.trans (orT_no (e_truth (d := .bool false) (e_un (two_0 h2) rfl) rfl)) (Eq.trans (orT_no (e_not (b := true) (e_truth (d := .bool true) (e_un (two_0 h2) rfl) rfl))) (e_not (e_bool (e_chain e_const (two_0 h2) (le2 _ _) (e_un (e_var h0) (len_bundles bs)) rfl))))))
theorem al_out (C : Cm d bs v) {z : Int} (y : PyData) (h : ¬ (0 ≤ z ∧ z < (bs.length : Int))) : Alike bs v g (.tuple [.int z, y]) := by
  refine ⟨false, wi_guard C (Eq.trans (wi_num rfl rfl) ?_), lr_guard (Eq.trans (lr_num rfl rfl) ?_)⟩
  · congr 1
    rw [Bool.not_eq_true', Bool.and_eq_false_iff, decide_eq_false_iff_not, decide_eq_false_iff_not]
    omega
  · congr 1
    rw [Bool.not_eq_true', Bool.and_eq_false_iff, decide_eq_false_iff_not, decide_eq_false_iff_not]
    omega
theorem between_bool (c : Bool) (a b : Int) : m_is_between [.bool c, .int a, .int b] g = .ok (.bool false) g := by
  cases c <;> simp [m_is_between, b_is_between, isT]
theorem al_bool (C : Cm d bs v) (c : Bool) (y : PyData) : Alike bs v g (.tuple [.bool c, y]) := by
  refine ⟨false, wi_guard C (Eq.trans (orT_no (is_tup rfl)) (Eq.trans (orT_no (two_len rfl)) (e_not (b := false) (e_truth (e_call (e_cons (two_0 rfl) (e_cons e_const (e_cons (len_m1 rfl) e_nil))) rfl (between_bool c _ _)) rfl)))), lr_guard (Eq.trans (orT_no (is_tup rfl)) (Eq.trans (orT_no (two_len rfl)) (orT_yes (e_truth (d := .bool true) (e_un (two_0 rfl) rfl) rfl))))⟩
theorem row_no {y : PyData} {n : Nat} {lo hi : Int} (h : isT "tuple" y = false) : m_is_row [y, natD n, .int lo, .int hi] g = .ok (.bool false) g := by
  unfold m_is_row
  refine f_rt ?_
  unfold b_is_row
  refine seq_rt (Eq.trans (if_yes (orT_yes (e_not (b := false) (e_truth (d := .bool false) (e_un (x := y) (e_var rfl) ?_) rfl)))) (s_ret e_const))
  show some (PyData.bool (isT "tuple" y)) = _
  rw [h]
/-- behind the guard, a bundle that is there -/
theorem wi_in (C : Cm d bs v) {k : Nat} {b : Bd} (hk : bs[k]? = some b) (y : PyData) {q : Bool} (h : (seqS (ifS (notT (truthD (callD 4 m_is_row (consD (opD ixD (varD 2) (constD (.int 1))) (consD (unD lenD (varD 6)) (consD (constD (.int 0)) (consD (constD (.int 40)) nilD)))))))
  (retS (constD (.bool false)))
  nextS)
  (seqS (setS 3 (varD 5))
  (seqS (forS (rangeD (unD lenD (varD 6))) (nameT 4)
  (setS 3 (callD 3 m_added (consD (varD 3) (consD (opD ixD (varD 6) (varD 4)) (consD (opD ixD (opD ixD (varD 2) (constD (.int 1))) (varD 4)) nilD))))))
  (retS (opD eqD (varD 3) (varD 1)))))) [.sh (bundlesD bs), .sh (encT v), .sh (.tuple [natD k, y]), .no, .no, .sh (encT b.1), .sh (raysD b.2)] g = .rt (.bool q) g) : m_is_way_in [bundlesD bs, encT v, .tuple [natD k, y]] g = .ok (.bool q) g := by
  have hk' : k < bs.length := (List.getElem?_eq_some_iff.mp hk).1
  unfold m_is_way_in
  refine f_rt ?_
  unfold b_is_way_in
  refine s_drop (e_call (e_cons (e_var rfl) (e_cons (e_var rfl) e_nil)) rfl (checkAsked_ok C.hb C.hl C.hv C.d1 C.d3)) ?_
  have hg : orT (notT (truthD (unD (isiD "tuple") (varD 2)))) (orT (boolD (opD neD (unD lenD (varD 2)) (constD (.int 2)))) (notT (truthD (callD 3 m_is_between (consD (opD ixD (varD 2) (constD (.int 0))) (consD (constD (.int 0)) (consD (opD subD (unD lenD (varD 0)) (constD (.int 1))) nilD))))))) (wiI bs v (.tuple [natD k, y])) g = .ok false g := by
    refine Eq.trans (wi_num (z := (k : Int)) rfl rfl) ?_
    congr 1
    rw [decide_eq_true (by omega), decide_eq_true (by omega)]
    rfl
  refine Eq.trans (seq_eq (s_skip hg)) (Eq.trans (seq_eq (asg_ok (ρ1 := [.sh (bundlesD bs), .sh (encT v), .sh (.tuple [natD k, y]), .no, .no, .sh (encT b.1), .sh (raysD b.2)]) (e_op (e_var rfl) (two_0 rfl) (ix_bundles hk)) rfl)) h)
theorem lr_in {k : Nat} {b : Bd} (hk : bs[k]? = some b) (y : PyData) {q : Bool} (h : (seqS (ifS (orT (notT (truthD (unD (isiD "tuple") (varD 3)))) (orT (boolD (opD neD (unD lenD (varD 3)) (unD lenD (varD 5)))) (boolD (opD (cmpD fun i j => decide (j < i)) (unD lenD (shareO (lcO (itemsD (varD 3)) [7] (nameT 7) (orT (truthD (unD (isiD "bool") (varD 7))) (orT (notT (truthD (unD (isiD "int") (varD 7)))) (boolD (opD (cmpD fun i j => decide (i < j)) (varD 7) (constD (.int 0)))))) (varD 7)))) (constD (.int 0))))))
  (retS (constD (.bool false)))
  nextS)
  (retS (opD eqD (varD 1) (unD tupleD (shareO (lcO (rangeD (unD lenD (varD 4))) [6] (nameT 6) yesT (opD addD (opD ixD (varD 4) (varD 6)) (unD sumA (shareO (lcO (rangeD (unD lenD (varD 5))) [8] (nameT 8) yesT (opD mulD (opD ixD (varD 3) (varD 8)) (opD ixD (opD ixD (varD 5) (varD 8)) (varD 6)))))))))))) ) [.sh (bundlesD bs), .sh (encT v), .sh (.tuple [natD k, y]), .sh y, .sh (encT b.1), .sh (raysD b.2), .no, .no, .no] g = .rt (.bool q) g) : m_law_right [bundlesD bs, encT v, .tuple [natD k, y]] g = .ok (.bool q) g := by
  have hk' : k < bs.length := (List.getElem?_eq_some_iff.mp hk).1
  unfold m_law_right
  refine f_rt ?_
  unfold b_law_right
  have hg := lr_num (g := g) (bs := bs) (ρ := lrI bs v (.tuple [natD k, y])) (z := (k : Int)) (y := y) rfl rfl
  rw [decide_eq_true (by omega), decide_eq_true (by omega)] at hg
  refine Eq.trans (seq_eq (s_skip hg)) (Eq.trans (seq_eq (asg_ok (ρ1 := [.sh (bundlesD bs), .sh (encT v), .sh (.tuple [natD k, y]), .no, .sh (encT b.1), .sh (raysD b.2), .no, .no, .no]) (e_op (e_var rfl) (two_0 rfl) (ix_bundles hk)) rfl)) (s_set (two_1 rfl) h))
theorem al_y (C : Cm d bs v) {k : Nat} {b : Bd} (hk : bs[k]? = some b) {y : PyData} (hy : isT "tuple" y = false) : Alike bs v g (.tuple [natD k, y]) := by
  refine ⟨false, wi_in C hk y (seq_rt (Eq.trans (if_yes (e_not (b := false) (e_truth (e_call (e_cons (two_1 rfl) (e_cons (e_un (e_var rfl) (len_rays b.2)) (e_cons e_const (e_cons e_const e_nil)))) rfl (row_no hy)) rfl))) (s_ret e_const))), lr_in hk y (seq_rt (Eq.trans (if_yes (orT_yes (e_not (b := false) (e_truth (d := .bool false) (e_un (x := y) (e_var rfl) ?_) rfl)))) (s_ret e_const)))⟩
  show some (PyData.bool (isT "tuple" y)) = _
  rw [hy]
end
end K

set_option Elab.async false
set_option linter.all false
set_option maxRecDepth 100000
set_option maxHeartbeats 400000
namespace K
open PySem DL PyProof.Rows
section
variable {g : DL.G} {d : Nat} {r v rest : Bg} {rs : List Bg} {bs : List Bd} {b : Bd} {c : List Int}
theorem mulR' {x : Int} (h : 0 ≤ x ∧ x ≤ 10000) (t : Int) : mulD (.int t) (.int x) = some (.int (t * x)) := by
  show (if (-(2 ^ 64) < t ∧ t < 2 ^ 64) ∨ (-(2 ^ 64) < x ∧ x < 2 ^ 64) then some (PyData.int (t * x)) else none) = _
  rw [if_pos (.inr ⟨by omega, by omega⟩)]
theorem wi_made (B : Bu d b) (hr : rowB b.2.length 0 40 c = true) {k : Nat} (x4 : Sl) : ∃ x4', forD (nameT 4) (setS 3 (callD 3 m_added (consD (varD 3) (consD (opD ixD (varD 6) (varD 4)) (consD (opD ixD (opD ixD (varD 2) (constD (.int 1))) (varD 4)) nilD))))) ((List.range b.2.length).map natD) [.sh (bundlesD bs), .sh (encT v), .sh (.tuple [natD k, encT c]), .sh (encT b.1), x4, .sh (encT b.1), .sh (raysD b.2)] g = .nx [.sh (bundlesD bs), .sh (encT v), .sh (.tuple [natD k, encT c]), .sh (encT (madeN b.1 b.2 c b.2.length)), x4', .sh (encT b.1), .sh (raysD b.2)] g := by
  have hd3 := B.d3
  unfold rowB at hr
  rw [Bool.and_eq_true, decide_eq_true_eq, List.all_eq_true] at hr
  obtain ⟨hc, hc2⟩ := hr
  obtain ⟨ρ', ⟨x4', rfl⟩, hf⟩ := forD_acc (t := nameT 4) (body := setS 3 (callD 3 m_added (consD (varD 3) (consD (opD ixD (varD 6) (varD 4)) (consD (opD ixD (opD ixD (varD 2) (constD (.int 1))) (varD 4)) nilD))))) natD (fun pre ρ => ∃ x4', ρ = [.sh (bundlesD bs), .sh (encT v), .sh (.tuple [natD k, encT c]), .sh (encT (madeN b.1 b.2 c pre.length)), x4', .sh (encT b.1), .sh (raysD b.2)]) g (List.range b.2.length)
    (by
      rintro pre j post e ρ ⟨x4', rfl⟩
      obtain ⟨hj, hj2⟩ : j = pre.length ∧ j < b.2.length := by
        have h1 := congrArg (fun l => l[pre.length]?) e
        simp only [List.getElem?_append_right (Nat.le_refl _), Nat.sub_self, List.getElem?_cons_zero] at h1
        have h2 : pre.length < b.2.length := by
          have := congrArg List.length e
          rw [List.length_range, List.length_append, List.length_cons] at this
          omega
        rw [List.getElem?_range h2] at h1
        have := Option.some.inj h1
        omega
      subst hj
      have R := B.rs _ (List.getElem_mem hj2)
      have hcj := hc2 _ (at0_mem (v := c) (k := pre.length) (by omega))
      rw [Bool.and_eq_true, decide_eq_true_eq, decide_eq_true_eq] at hcj
      refine ⟨_, _, rfl, set_ok (e_call (e_cons (e_var rfl) (e_cons (e_op (e_var rfl) (e_var rfl) (ix_rays (List.getElem?_eq_getElem hj2))) (e_cons (e_op (two_1 rfl) (e_var rfl) (ix_T c (by omega))) e_nil))) rfl (added_ok (by rw [madeN_len, R.len, B.len]) (by rw [madeN_len, B.len]; omega) (by omega))), ⟨.sh (natD pre.length), ?_⟩⟩
      have e1 : madeN b.1 b.2 c (pre ++ [pre.length]).length = addV (madeN b.1 b.2 c pre.length) b.2[pre.length] (at0 c pre.length) := by
        rw [List.length_append]
        show madeN b.1 b.2 c (pre.length + 1) = _
        rw [madeN, List.getElem?_eq_getElem hj2]
        rfl
      rw [e1]
      rfl)
    [.sh (bundlesD bs), .sh (encT v), .sh (.tuple [natD k, encT c]), .sh (encT b.1), x4, .sh (encT b.1), .sh (raysD b.2)] ⟨x4, rfl⟩
  rw [List.length_range] at hf
  exact ⟨x4', hf⟩
theorem intsD_map (l : List Int) : intsD (l.map PyData.int) = some l := by
  induction l with
  | nil => rfl
  | cons x r ih => simp [intsD, ih]
theorem al_c (C : Cm d bs v) {k : Nat} (hk : bs[k]? = some b) (hcl : c.length ≤ 1000) : Alike bs v g (.tuple [natD k, encT c]) := by
  have Bb := C.hb b (List.mem_of_getElem? hk)
  have B := Bb.bu
  have hd3 := C.d3
  have hfew := B.few
  have hbl := B.len
  refine ⟨rightB b v c, wi_in C hk (encT c) ?_, lr_in hk (encT c) ?_⟩
  · rw [← right_iff B C.hv]
    have hrow : notT (truthD (callD 4 m_is_row (consD (opD ixD (varD 2) (constD (.int 1))) (consD (unD lenD (varD 6)) (consD (constD (.int 0)) (consD (constD (.int 40)) nilD)))))) [.sh (bundlesD bs), .sh (encT v), .sh (.tuple [natD k, encT c]), .no, .no, .sh (encT b.1), .sh (raysD b.2)] g = .ok (!rowB b.2.length 0 40 c) g :=
      e_not (e_truth (e_call (e_cons (two_1 rfl) (e_cons (e_un (e_var rfl) (len_rays b.2)) (e_cons e_const (e_cons e_const e_nil)))) rfl (row_ok hcl)) rfl)
    cases hq : rowB b.2.length 0 40 c with
    | false =>
      rw [hq] at hrow
      exact seq_rt (Eq.trans (if_yes hrow) (s_ret e_const))
    | true =>
      rw [hq] at hrow
      obtain ⟨x4', hm⟩ := wi_made (g := g) (bs := bs) (v := v) (k := k) B hq .no
      refine Eq.trans (seq_eq (s_skip hrow)) (s_set (e_var rfl) (Eq.trans (seq_eq (for_run (e_rangeN (e_un (e_var rfl) (len_rays b.2)) (by omega)) hm)) (s_ret (e_op (e_var rfl) (e_var rfl) ?_))))
      rw [eq_T, Bool.true_and]
  · have c1 := e_compF (ρ := [.sh (bundlesD bs), .sh (encT v), .sh (.tuple [natD k, encT c]), .sh (encT c), .sh (encT b.1), .sh (raysD b.2), .no, .no, .no]) (g := g) (fi := itemsD (varD 3)) (own := [7]) (t := nameT 7) (c := orT (truthD (unD (isiD "bool") (varD 7))) (orT (notT (truthD (unD (isiD "int") (varD 7)))) (boolD (opD (cmpD fun i j => decide (i < j)) (varD 7) (constD (.int 0)))))) (e := varD 7) PyData.int (fun x => decide (x < 0)) PyData.int c (e_itemsT (e_var rfl)) (by omega) fun x _ => ⟨_, rfl, Eq.trans (orT_no (e_truth (d := .bool false) (e_un (e_var rfl) rfl) rfl)) (Eq.trans (orT_no (e_not (b := true) (e_truth (d := .bool true) (e_un (e_var rfl) rfl) rfl))) (e_bool (e_op (e_var rfl) e_const rfl))), fun _ => e_var rfl⟩
    have el : ∀ l : List Int, lenD (.list (l.map PyData.int)) = some (natD l.length) := fun l => by
      show some (PyData.int (((l.map PyData.int).length : Nat) : Int)) = _
      rw [List.length_map]
    have hc1 : orT (notT (truthD (unD (isiD "tuple") (varD 3)))) (orT (boolD (opD neD (unD lenD (varD 3)) (unD lenD (varD 5)))) (boolD (opD (cmpD fun i j => decide (j < i)) (unD lenD (shareO (lcO (itemsD (varD 3)) [7] (nameT 7) (orT (truthD (unD (isiD "bool") (varD 7))) (orT (notT (truthD (unD (isiD "int") (varD 7)))) (boolD (opD (cmpD fun i j => decide (i < j)) (varD 7) (constD (.int 0)))))) (varD 7)))) (constD (.int 0))))) [.sh (bundlesD bs), .sh (encT v), .sh (.tuple [natD k, encT c]), .sh (encT c), .sh (encT b.1), .sh (raysD b.2), .no, .no, .no] g = .ok (!(decide (c.length = b.2.length) && c.all fun x => decide (0 ≤ x))) g := by
      refine Eq.trans (orT_no (is_tup rfl)) ?_
      have hlen : boolD (opD neD (unD lenD (varD 3)) (unD lenD (varD 5))) [.sh (bundlesD bs), .sh (encT v), .sh (.tuple [natD k, encT c]), .sh (encT c), .sh (encT b.1), .sh (raysD b.2), .no, .no, .no] g = .ok (!decide (c.length = b.2.length)) g := by
        refine e_bool (e_op (e_un (e_var rfl) (len_T c)) (e_un (e_var rfl) (len_rays b.2)) ?_)
        rw [neI]
        congr 3
        exact decide_eq_decide.mpr (by omega)
      cases hq : decide (c.length = b.2.length) with
      | false => rw [hq] at hlen; exact orT_yes hlen
      | true =>
        rw [hq] at hlen
        refine Eq.trans (orT_no hlen) (e_bool (e_op (e_un (e_share c1) (el _)) e_const ?_))
        rw [gtI, Bool.true_and]
        congr 2
        rw [Bool.eq_iff_iff, decide_eq_true_eq, Bool.not_eq_true', ← Bool.not_eq_true, List.all_eq_true]
        constructor
        · intro h1 h2
          have : (c.filter fun x => decide (x < 0)) = [] := List.filter_eq_nil_iff.mpr fun x hx => by
            have := of_decide_eq_true (h2 x hx)
            rw [decide_eq_true_eq]
            omega
          rw [this] at h1
          simp at h1
        · intro h1
          by_cases hz : (c.filter fun x => decide (x < 0)) = []
          · exfalso
            refine h1 fun x hx => ?_
            have := List.filter_eq_nil_iff.mp hz x hx
            rw [decide_eq_true_eq] at this
            exact decide_eq_true (by omega)
          · have := List.length_pos_iff.mpr hz
            omega
    unfold rightB
    cases hq : (decide (c.length = b.2.length) && c.all fun x => decide (0 ≤ x)) with
    | false =>
      rw [hq] at hc1
      exact seq_rt (Eq.trans (if_yes hc1) (s_ret e_const))
    | true =>
      rw [hq] at hc1
      rw [Bool.and_eq_true, decide_eq_true_eq] at hq
      obtain ⟨hcn, _⟩ := hq
      refine Eq.trans (seq_eq (s_skip hc1)) (s_ret (e_op (e_var rfl) ?_ (eq_T v (sumV b.1 b.2 c))))
      have c2 := e_comp (ρ := [.sh (bundlesD bs), .sh (encT v), .sh (.tuple [natD k, encT c]), .sh (encT c), .sh (encT b.1), .sh (raysD b.2), .no, .no, .no]) (g := g) (fi := rangeD (unD lenD (varD 4))) (own := [6]) (t := nameT 6) (e := opD addD (opD ixD (varD 4) (varD 6)) (unD sumA (shareO (lcO (rangeD (unD lenD (varD 5))) [8] (nameT 8) yesT (opD mulD (opD ixD (varD 3) (varD 8)) (opD ixD (opD ixD (varD 5) (varD 8)) (varD 6))))))) natD (fun i => PyData.int (at0 b.1 i + ((List.range b.2.length).map fun j => at0 c j * at0 (b.2[j]?.getD []) i).sum)) (List.range b.1.length) (e_rangeN (e_un (e_var rfl) (len_T b.1)) (by omega)) (by rw [List.length_range]; omega) fun i hi => by
        have hi := List.mem_range.mp hi
        refine ⟨[.sh (bundlesD bs), .sh (encT v), .sh (.tuple [natD k, encT c]), .sh (encT c), .sh (encT b.1), .sh (raysD b.2), .sh (natD i), .no, .no], rfl, e_op (e_op (e_var rfl) (e_var rfl) (ix_T b.1 hi)) (e_un (x := .list (((List.range b.2.length).map fun j => at0 c j * at0 (b.2[j]?.getD []) i).map PyData.int)) ?_ ?_) (addI _ _)⟩
        · have c3 := e_comp (ρ := [.sh (bundlesD bs), .sh (encT v), .sh (.tuple [natD k, encT c]), .sh (encT c), .sh (encT b.1), .sh (raysD b.2), .sh (natD i), .no, .no]) (g := g) (fi := rangeD (unD lenD (varD 5))) (own := [8]) (t := nameT 8) (e := opD mulD (opD ixD (varD 3) (varD 8)) (opD ixD (opD ixD (varD 5) (varD 8)) (varD 6))) natD (fun j => PyData.int (at0 c j * at0 (b.2[j]?.getD []) i)) (List.range b.2.length) (e_rangeN (e_un (e_var rfl) (len_rays b.2)) (by omega)) (by rw [List.length_range]; omega) fun j hj => by
            have hj := List.mem_range.mp hj
            have R := B.rs _ (List.getElem_mem hj)
            have hir : i < b.2[j].length := by rw [R.len]; omega
            have e2 : at0 (b.2[j]?.getD []) i = at0 b.2[j] i := by rw [List.getElem?_eq_getElem hj]; rfl
            rw [e2]
            exact ⟨_, rfl, e_op (e_op (e_var rfl) (e_var rfl) (ix_T c (by omega))) (e_op (e_op (e_var rfl) (e_var rfl) (ix_rays (List.getElem?_eq_getElem hj))) (e_var rfl) (ix_T _ hir)) (mulR' (R.nn _ (at0_mem hir)) _)⟩
          rw [List.map_map]
          exact e_share c3
        · show ((intsD (((List.range b.2.length).map fun j => at0 c j * at0 (b.2[j]?.getD []) i).map PyData.int)).map fun ns => PyData.int ns.sum) = _
          rw [intsD_map]
          rfl
      refine e_un (e_share c2) ?_
      unfold sumV encT
      rw [List.map_map]
      rfl
end
end K

set_option Elab.async false
set_option linter.all false
set_option maxRecDepth 100000
set_option maxHeartbeats 400000
namespace K
open PySem DL PyProof.Rows
section
variable {ms : List Int}
theorem e_callG {i n : Nat} {m : Fn} {fa : Ar} {ds : List PyData} {d : PyData} {ρ : Nv} {g g1 g2 : DL.G} (hi : ρ[i]? = some .dr) (h : fa ρ g = .ok ds g1) (hl : ds.length + 1 = n) (k : m ds g1 = .ok d g2) : callG n i m fa ρ g = .ok d g2 := by
  unfold callG
  rw [hi]
  show (fa ρ g).bind _ = _
  rw [h]
  show (if ds.length + 1 = n then m ds g1 else .bad) = _
  rw [if_pos hl, k]
theorem bag_drawnW {g : DL.G} (hg : Dr ms g) {α : Type} (enc : α → PyData) (xs : List α) {m : Nat} {j : Nat} {fi : Ar} {e : Ex} {ρ : Nv} (hf : fi ρ g = .ok (xs.map enc) g) (hl : xs.length ≤ 1000) (he : ∀ x ∈ xs, ∀ g, Dr ms g → ∃ (y : Int) (g' : DL.G), 0 ≤ y ∧ y < m ∧ Dr ms g' ∧ e ((wipeD ρ [j]).set j (.sh (enc x))) g = .ok (.int y) g') : ∃ (b : Bg) (g' : DL.G), b.length = xs.length ∧ (∀ x ∈ b, 0 ≤ x ∧ x < m) ∧ Dr ms g' ∧ unD tupleD (shareO (lcO fi [j] (nameT j) yesT e)) ρ g = .ok (encT b) g' := by
  obtain ⟨ys, g', h1, h2, b, h3, h4, h5⟩ := compD_all (t := nameT j) (cond := yesT) (elt := e) enc (fun pre ys g => Dr ms g ∧ ∃ b : Bg, ys = b.map PyData.int ∧ b.length = pre.length ∧ ∀ x ∈ b, 0 ≤ x ∧ x < m) xs (wipeD ρ [j]) (by
    rintro pre r post e' ys g ⟨hd, b, rfl, hl, hb⟩
    obtain ⟨y, g1, y0, y1, hg1, hy⟩ := he r (by rw [e']; simp) g hd
    refine ⟨_, g, rfl, .inr ⟨rfl, .int y, g1, hy, hg1, b ++ [y], by rw [List.map_append]; rfl, by rw [List.length_append, List.length_append, hl]; rfl, fun x hx => ?_⟩⟩
    rcases List.mem_append.mp hx with w | w
    · exact hb x w
    · rw [List.mem_singleton.mp w]; omega) (g := g) ⟨hg, [], rfl, rfl, fun _ h => nomatch h⟩
  rw [h3] at h1
  exact ⟨b, g', h4, h5, h2, un2 (share2 (lc_ok hf (by rw [List.length_map]; omega) h1)) rfl⟩
end
section
/-! ### bundles drawn -/
variable {ms : List Int} {g : DL.G} {d : Nat} {r v rest b : Bg} {rs L : List Bg}
structure Rd (d : Nat) (r : Bg) : Prop where
  ry : Ry d r
  top : ∀ x ∈ r, x ≤ 5
structure Bs5 (d : Nat) (b : Bd) : Prop where
  bv : Bv d b
  base : ∀ x ∈ b.1, x ≤ 5
  rays : ∀ r ∈ b.2, ∀ x ∈ r, x ≤ 5
theorem notin_V (c : Bg) (l : List Bg) : notInD (encT c) (raysD l) = some (.bool (!decide (c ∈ l))) := by
  have hs : SeqAt.shaped (raysD l) = true := shp_list fun d hd => by
    obtain ⟨x, _, rfl⟩ := List.mem_map.mp hd
    obtain ⟨h1, h2⟩ := lay_T x
    exact ⟨h1, by omega⟩
  have he : ((l.map encT).any fun z => PyData.eqv z (encT c)) = decide (c ∈ l) := by
    rw [List.any_map, Bool.eq_iff_iff, List.any_eq_true, decide_eq_true_eq]
    constructor
    · rintro ⟨x, hx, e⟩
      have : PyData.eqv (encT x) (encT c) = true := e
      rw [eqv_T] at this
      rw [← of_decide_eq_true this]
      exact hx
    · intro h
      refine ⟨c, h, ?_⟩
      show PyData.eqv (encT c) (encT c) = true
      rw [eqv_T]; simp
  simp [notInD, inD, hs, shp_T, he]
abbrev lb (d : Nat) (L : List Bg) (x5 x6 x7 : Sl) : Nv := [.dr, .sh (natD d), .sh (.int 3), .sh (.int 5), .ow (.lst (L.map encT)), x5, x6, x7]
noncomputable abbrev lbS : Sm := (seqS (setS 6 (unD tupleD (shareO (lcO (rangeD (varD 1)) [7] (nameT 7) yesT (opD ixD (shareO (lstO (consD (constD (.int 0)) (consD (constD (.int 0)) (consD (constD (.int 1)) (consD (constD (.int 1)) (consD (constD (.int 2)) (consD (constD (.int 3)) (consD (varD 3) nilD))))))))) (opD modD (callG 1 0 m_law_draw nilD) (constD (.int 7))))))))
  (ifS (peekT 4 (andT (boolD (opD gtDD (unD maxDD (varD 6)) (constD (.int 0)))) (boolD (opD notInD (varD 6) (varD 4)))))
  (appS 4 (varD 6))
  nextS))
structure Some5 (d : Nat) (L : List Bg) : Prop where
  nd : L.Nodup
  ok : ∀ r ∈ L, Rd d r
theorem ray_step (hg : Dr ms g) (d1 : 1 ≤ d) (d3 : d ≤ 3) (hL : Some5 d L) (hl : L.length ≤ 100) (x5 x6 x7 : Sl) : ∃ L' g' y6, Some5 d L' ∧ L'.length ≤ L.length + 1 ∧ Dr ms g' ∧ lbS (lb d L x5 x6 x7) g = .nx (lb d L' x5 y6 x7) g' := by
  obtain ⟨r, g1, r1, r2, hg1, hr⟩ := bag_drawnW hg natD (List.range d) (m := 6) (j := 7) (fi := rangeD (varD 1)) (e := opD ixD (shareO (lstO (consD (constD (.int 0)) (consD (constD (.int 0)) (consD (constD (.int 1)) (consD (constD (.int 1)) (consD (constD (.int 2)) (consD (constD (.int 3)) (consD (varD 3) nilD))))))))) (opD modD (callG 1 0 m_law_draw nilD) (constD (.int 7)))) (ρ := lb d L x5 x6 x7) (e_rangeN (e_var rfl) (by omega)) (by rw [List.length_range]; omega) (fun k _ g hg => by
    obtain ⟨x, g', hx, hg', h⟩ := pick_list hg (i := 0) (ρ := (wipeD (lb d L x5 x6 x7) [7]).set 7 (.sh (natD k))) rfl (e := shareO (lstO (consD (constD (.int 0)) (consD (constD (.int 0)) (consD (constD (.int 1)) (consD (constD (.int 1)) (consD (constD (.int 2)) (consD (constD (.int 3)) (consD (varD 3) nilD))))))))) (c := constD (.int 7)) (ds := [.int 0, .int 0, .int 1, .int 1, .int 2, .int 3, .int 5]) (fun g => e_share (e_lst (e_cons e_const (e_cons e_const (e_cons e_const (e_cons e_const (e_cons e_const (e_cons e_const (e_cons (e_var rfl) e_nil))))))) rfl)) (fun _ => rfl) (by simp)
    obtain ⟨y, hy, rfl⟩ : ∃ y : Int, (0 ≤ y ∧ y < 6) ∧ x = .int y := by
      simp only [List.mem_cons, List.not_mem_nil, or_false] at hx
      rcases hx with rfl | rfl | rfl | rfl | rfl | rfl | rfl
      all_goals exact ⟨_, ⟨by decide, by decide⟩, rfl⟩
    exact ⟨y, g', hy.1, hy.2, hg', h⟩)
  rw [List.length_range] at r1
  obtain ⟨m, m1, m2, _, m3⟩ := max_I (bx_ne r1 d1)
  have hc : peekT 4 (andT (boolD (opD gtDD (unD maxDD (varD 6)) (constD (.int 0)))) (boolD (opD notInD (varD 6) (varD 4)))) (lb d L x5 (.sh (encT r)) x7) g1 = .ok (decide (0 < m) && !decide (r ∈ L)) g1 :=
    e_peekT (b := .lst (L.map encT)) (d := raysD L) rfl rfl (e_and (e_bool (e_op (e_un (e_var rfl) m3) e_const (gtD_I _ _))) fun _ => e_bool (e_op (e_var rfl) (e_var rfl) (notin_V r L)))
  cases hq : (decide (0 < m) && !decide (r ∈ L)) with
  | false =>
    rw [hq] at hc
    exact ⟨L, g1, _, hL, by omega, hg1, Eq.trans (seq_eq (set_ok hr)) (s_skip hc)⟩
  | true =>
    rw [hq] at hc
    rw [Bool.and_eq_true, decide_eq_true_eq, Bool.not_eq_true', decide_eq_false_iff_not] at hq
    refine ⟨L ++ [r], g1, .sh (encT r), ⟨?_, fun x hx => ?_⟩, by rw [List.length_append]; exact Nat.le_refl _, hg1, Eq.trans (seq_eq (set_ok hr)) (Eq.trans (if_yes hc) (s_app1 rfl (e_var rfl) (by rw [List.length_map]; omega) ?_))⟩
    · rw [List.nodup_append]
      refine ⟨hL.nd, by simp, fun a ha b hb => ?_⟩
      rw [List.mem_singleton.mp hb]
      intro z
      rw [z] at ha
      exact hq.2 ha
    · rcases List.mem_append.mp hx with w | w
      · exact hL.ok x w
      · rw [List.mem_singleton.mp w]
        exact ⟨⟨r1, fun x hx => by have := r2 x hx; omega, m, m1, hq.1⟩, fun x hx => by have := r2 x hx; omega⟩
    · show ([.dr, .sh (natD d), .sh (.int 3), .sh (.int 5), .ow (.lst (L.map encT ++ [encT r])), x5, .sh (encT r), x7] : Nv) = lb d (L ++ [r]) x5 (.sh (encT r)) x7
      unfold lb
      rw [List.map_append]
      rfl
theorem lawBundle_ok (hg : Dr ms g) (d1 : 1 ≤ d) (d3 : d ≤ 3) : ∃ b g', Bs5 d b ∧ Dr ms g' ∧ m_law_bundle [natD d, .int 3, .int 5] g = .ok (encBd b) g' := by
  suffices H : ∃ b g', Bs5 d b ∧ Dr ms g' ∧ b_law_bundle [.dr, .sh (natD d), .sh (.int 3), .sh (.int 5), .no, .no, .no, .no] g = .rt (encBd b) g' by
    obtain ⟨b, g', h1, h2, h3⟩ := H
    refine ⟨b, g', h1, h2, ?_⟩
    unfold m_law_bundle
    exact fnG_rt h3
  unfold b_law_bundle
  obtain ⟨n, g1, hn, hg1, h1⟩ := drawE hg (i := 0) (m := 4) (ρ := lb d [] .no .no .no) rfl (e := opD addD (varD 2) (constD (.int 1))) (by decide) (fun _ => e_op (e_var rfl) e_const rfl)
  obtain ⟨ρ', g2, hf, L, x5, x6, hL, hl, hg2, rfl⟩ := forD_all (t := nameT 5) (body := lbS) natD (fun pre ρ g => ∃ L x5 x6, Some5 d L ∧ L.length ≤ pre.length ∧ Dr ms g ∧ ρ = lb d L x5 x6 .no) (List.range n)
    (by
      rintro pre k post e ρ g ⟨L, x5, x6, hL, hl, hg, rfl⟩
      have hlen := congrArg List.length e
      rw [List.length_range, List.length_append, List.length_cons] at hlen
      obtain ⟨L', g', y6, k1, k2, k3, k4⟩ := ray_step hg d1 d3 hL (by omega) (.sh (natD k)) x6 .no
      exact ⟨_, _, g', rfl, .inl k4, L', _, y6, k1, by rw [List.length_append]; show L'.length ≤ pre.length + 1; omega, k3, rfl⟩)
    (ρ := lb d [] .no .no .no) (g := g1) ⟨[], .no, .no, ⟨List.nodup_nil, fun _ h => nomatch h⟩, Nat.le_refl _, hg1, rfl⟩
  rw [List.length_range] at hl
  obtain ⟨b, g3, b1, b2, hg3, hb⟩ := bag_drawnW hg2 natD (List.range d) (m := 6) (j := 7) (fi := rangeD (varD 1)) (e := opD modD (callG 1 0 m_law_draw nilD) (opD addD (varD 3) (constD (.int 1)))) (ρ := (lb d L x5 x6 .no).set 4 (.sh (raysD L))) (e_rangeN (e_var rfl) (by omega)) (by rw [List.length_range]; omega) (fun k _ g hg => by
    obtain ⟨y, g', hy, hg', h⟩ := drawE hg (i := 0) (m := 6) (ρ := (wipeD ((lb d L x5 x6 .no).set 4 (.sh (raysD L))) [7]).set 7 (.sh (natD k))) rfl (e := opD addD (varD 3) (constD (.int 1))) (by decide) (fun _ => e_op (e_var rfl) e_const rfl)
    exact ⟨y, g', by omega, by omega, hg', h⟩)
  rw [List.length_range] at b1
  have hp := srtB_perm L
  have hm : ∀ r ∈ srtB L, Rd d r := fun r hr => hL.ok r (hp.mem_iff.mp hr)
  refine ⟨(b, srtB L), g3, ⟨⟨⟨d1, d3, b1, fun x hx => by have := b2 x hx; omega, fun r hr => (hm r hr).ry, by rw [hp.length_eq]; omega⟩, srtB_lt hL.nd⟩, fun x hx => by have := b2 x hx; omega, fun r hr => (hm r hr).top⟩, hg3, ?_⟩
  have h1' : rangeD (opD modD (callG 1 0 m_law_draw nilD) (opD addD (varD 2) (constD (.int 1)))) (lb d [] .no .no .no) g = .ok ((List.range n).map natD) g1 := by
    have := range_ok h1 (by omega)
    rw [this]
    congr 1
    refine List.map_congr_left fun k _ => ?_
    show PyData.int (0 + (k : Int)) = .int (k : Int)
    congr 1
    omega
  refine Eq.trans (seq_eq (ρ1 := lb d [] .no .no .no) (g1 := g) rfl) ?_
  refine Eq.trans (seq_eq (for_run h1' hf)) ?_
  refine s_shut rfl (ret_ok (tup2 (cons2 hb (cons2 (share2 (e_sortB (e_var rfl) fun r hr => bx_ne (hL.ok r hr).ry.len d1)) rfl)) (by simp)))
end
end K

set_option Elab.async false
set_option linter.all false
set_option maxRecDepth 100000
set_option maxHeartbeats 400000
namespace K
open PySem DL PyProof.Rows
section
variable {ms : List Int}
theorem cut_T {b : Bg} {k : Nat} (h : k ≤ b.length) {ρ : Nv} {g : DL.G} {e f : Ex} (he : e ρ g = .ok (encT b) g) (hf : f ρ g = .ok (natD k) g) : slD e noPart (somePart f) ρ g = .ok (encT (b.take k)) g := by
  have h2 := cut_lo (b.map PyData.int) k (by rw [List.length_map]; exact h)
  have : slD e noPart (somePart f) ρ g = .ok (.tuple (cutP (b.map PyData.int) none (some (k : Int)))) g := by
    have he' : e ρ g = .ok (.tuple (b.map PyData.int)) g := he
    simp [he', hf]
  rw [this, h2, ← List.map_take]
  rfl
theorem add_T {a b : Bg} (h : a.length + b.length ≤ 1000) : addD (encT a) (encT b) = some (encT (a ++ b)) := by
  show (if (a.map PyData.int).length + (b.map PyData.int).length ≤ big then some (PyData.tuple (a.map PyData.int ++ b.map PyData.int)) else none) = some (.tuple ((a ++ b).map PyData.int))
  rw [if_pos (by rw [List.length_map, List.length_map]; unfold big; omega), List.map_append]
theorem drawV {g : DL.G} (hg : Dr ms g) {ρ : Nv} {i : Nat} (hi : ρ[i]? = some .dr) {e : Ex} {M : Nat} (he : ∀ g, Dr ms g → ∃ (m : Nat) (g' : DL.G), 0 < m ∧ m ≤ M ∧ Dr ms g' ∧ e ρ g = .ok (.int (m : Int)) g') : ∃ (r : Nat) (g' : DL.G), r < M ∧ Dr ms g' ∧ opD modD (callG 1 i m_law_draw nilD) e ρ g = .ok (.int (r : Int)) g' := by
  obtain ⟨d, g1, hd, hg1⟩ := draw_any hg
  obtain ⟨m, g2, m0, mM, hg2, h2⟩ := he g1 hg1
  have hm := md (r := d) (n := (m : Int)) (by omega)
  have hb := md_bd (r := d) (n := (m : Int)) (by omega)
  refine ⟨(d % (m : Int)).toNat, g2, by omega, hg2, ?_⟩
  rw [show (((d % (m : Int)).toNat : Nat) : Int) = d % (m : Int) by omega]
  exact op2 (e_callG hi (ds := []) rfl rfl hd) h2 hm
theorem nar_T {k : Nat} {b : Bg} (h : b.length ≤ 1000) : Nar (k + 2) (encT b) := by
  refine ⟨by rw [List.length_map]; omega, fun d hd => ?_⟩
  obtain ⟨x, _, rfl⟩ := List.mem_map.mp hd
  trivial
end
section
/-! ### a turn of the law -/
variable {ms : List Int} {g : DL.G} {d : Nat} {r v rest b : Bg} {rs L : List Bg} {bs : List Bd}
abbrev TS (d : Nat) (bs : List Bd) (x4 x7 x8 x9 x10 x11 x12 x13 x14 x15 x16 x17 : Sl) : Nv := [.no, .dr, .sh (natD d), .sh (bundlesD bs), x4, .no, .no, x7, x8, x9, x10, x11, x12, x13, x14, x15, x16, x17]
structure Gb (d : Nat) (bs : List Bd) : Prop where
  b5 : ∀ b ∈ bs, Bs5 d b
  l1 : 1 ≤ bs.length
  l3 : bs.length ≤ 3
  d1 : 1 ≤ d
  d3 : d ≤ 3
theorem Gb.cm (G : Gb d bs) (hv : Bx d v) : Cm d bs v := ⟨fun b hb => (G.b5 b hb).bv, by have := G.l3; omega, hv, G.d1, G.d3⟩
theorem vec_drawn (hg : Dr ms g) (G : Gb d bs) (t : Nat) (x7 x8 x9 x10 x11 x12 x13 x14 x15 x16 x17 : Sl) : ∃ v g', Bx d v ∧ Dr ms g' ∧ unD tupleD (shareO (lcO (rangeD (varD 2)) [9] (nameT 9) yesT (opD modD (callG 1 1 m_law_draw nilD) (opD ixD (shareO (lstO (consD (constD (.int 9)) (consD (constD (.int 41)) nilD)))) (ifD (boolD (opD (cmpD fun i j => decide (i < j)) (varD 2) (constD (.int 3)))) (opD modD (varD 4) (constD (.int 2))) (constD (.int 0))))))) (TS d bs (.sh (natD t)) x7 x8 x9 x10 x11 x12 x13 x14 x15 x16 x17) g = .ok (encT v) g' := by
  have d3 := G.d3
  obtain ⟨b, g', b1, b2, hg', hb⟩ := bag_drawnW hg natD (List.range d) (m := 41) (j := 9) (fi := rangeD (varD 2)) (e := opD modD (callG 1 1 m_law_draw nilD) (opD ixD (shareO (lstO (consD (constD (.int 9)) (consD (constD (.int 41)) nilD)))) (ifD (boolD (opD (cmpD fun i j => decide (i < j)) (varD 2) (constD (.int 3)))) (opD modD (varD 4) (constD (.int 2))) (constD (.int 0))))) (ρ := TS d bs (.sh (natD t)) x7 x8 x9 x10 x11 x12 x13 x14 x15 x16 x17) (e_rangeN (e_var rfl) (by omega)) (by rw [List.length_range]; omega) (fun k _ g hg => by
    have hix : ∃ i : Nat, i < 2 ∧ ∀ g, ifD (boolD (opD (cmpD fun i j => decide (i < j)) (varD 2) (constD (.int 3)))) (opD modD (varD 4) (constD (.int 2))) (constD (.int 0)) ((wipeD (TS d bs (.sh (natD t)) x7 x8 x9 x10 x11 x12 x13 x14 x15 x16 x17) [9]).set 9 (.sh (natD k))) g = .ok (natD i) g := by
      by_cases h : (d : Int) < 3
      · refine ⟨t % 2, Nat.mod_lt _ (by decide), fun g => e_if (k := true) (e_bool (e_op (e_var rfl) e_const (by show some (PyData.bool (decide ((d : Int) < 3))) = _; rw [decide_eq_true h]))) (fun _ => e_op (e_var rfl) e_const (md (by decide))) fun z => by cases z⟩
      · exact ⟨0, by decide, fun g => e_if (k := false) (e_bool (e_op (e_var rfl) e_const (by show some (PyData.bool (decide ((d : Int) < 3))) = _; rw [decide_eq_false h]))) (fun z => by cases z) fun _ => e_const⟩
    obtain ⟨i, hi, hie⟩ := hix
    obtain ⟨r, g', hr, hg', h⟩ := drawV (M := 41) hg (i := 1) (ρ := (wipeD (TS d bs (.sh (natD t)) x7 x8 x9 x10 x11 x12 x13 x14 x15 x16 x17) [9]).set 9 (.sh (natD k))) rfl (e := opD ixD (shareO (lstO (consD (constD (.int 9)) (consD (constD (.int 41)) nilD)))) (ifD (boolD (opD (cmpD fun i j => decide (i < j)) (varD 2) (constD (.int 3)))) (opD modD (varD 4) (constD (.int 2))) (constD (.int 0)))) (fun g hg => by
      have hl : shareO (lstO (consD (constD (.int 9)) (consD (constD (.int 41)) nilD))) ((wipeD (TS d bs (.sh (natD t)) x7 x8 x9 x10 x11 x12 x13 x14 x15 x16 x17) [9]).set 9 (.sh (natD k))) g = .ok (.list [.int 9, .int 41]) g := e_share (e_lst (e_cons e_const (e_cons e_const e_nil)) rfl)
      by_cases h0 : i = 0
      · subst h0
        exact ⟨9, g, by decide, by decide, hg, e_op hl (hie g) (ix0L _ _)⟩
      · have : i = 1 := by omega
        subst this
        exact ⟨41, g, by decide, by decide, hg, e_op hl (hie g) (L2.atI_nat (j := 1) rfl)⟩)
    exact ⟨r, g', by omega, by omega, hg', h⟩)
  rw [List.length_range] at b1
  exact ⟨b, g', ⟨b1, fun x hx => by have := b2 x hx; omega⟩, hg', hb⟩
/-- behind k rays with at most 2 times each -/
noncomputable abbrev turnS : Sm := (seqS (asgS (opD ixD (varD 3) (opD modD (callG 1 1 m_law_draw nilD) (unD lenD (varD 3)))) (tupT (consT (nameT 15) (consT (nameT 16) nilT))))
  (seqS (setS 7 (varD 15))
  (forS (itemsD (varD 16)) (nameT 13)
  (seqS (setS 17 (opD modD (callG 1 1 m_law_draw nilD) (constD (.int 3))))
  (setS 7 (unD tupleD (shareO (lcO (rangeD (varD 2)) [9] (nameT 9) yesT (opD addD (opD ixD (varD 7) (varD 9)) (opD mulD (varD 17) (opD ixD (varD 13) (varD 9))))))))))))
theorem vec_had (hg : Dr ms g) (G : Gb d bs) (x4 x7 x8 x9 x10 x11 x12 x13 x14 x15 x16 x17 : Sl) : ∃ v g' y13 y15 y16 y17, Bx d v ∧ Dr ms g' ∧ turnS (TS d bs x4 x7 x8 x9 x10 x11 x12 x13 x14 x15 x16 x17) g = .nx (TS d bs x4 (.sh (encT v)) x8 x9 x10 x11 x12 y13 x14 y15 y16 y17) g' := by
  have d3 := G.d3
  have l1 := G.l1
  obtain ⟨x, g1, hx, hg1, h1⟩ := pick_list hg (i := 1) (ρ := TS d bs x4 x7 x8 x9 x10 x11 x12 x13 x14 x15 x16 x17) rfl (e := varD 3) (c := unD lenD (varD 3)) (ds := bs.map encBd) (fun g => e_var rfl) (fun g => by
    have := e_un (ρ := TS d bs x4 x7 x8 x9 x10 x11 x12 x13 x14 x15 x16 x17) (g := g) (e_var (i := 3) rfl) (len_bundles bs)
    rw [List.length_map]
    exact this) (fun z => by
      have := congrArg List.length z
      rw [List.length_map] at this
      simp at this
      rw [this] at l1
      simp at l1)
  obtain ⟨b, hb, rfl⟩ := List.mem_map.mp hx
  have B5 := G.b5 b hb
  have B := B5.bv.bu
  have hbl := B.len
  obtain ⟨ρ', g2, hf, w, y13, y17, hw1, hw2, hg2, rfl⟩ := forD_all (t := nameT 13) (body := seqS (setS 17 (opD modD (callG 1 1 m_law_draw nilD) (constD (.int 3))))
  (setS 7 (unD tupleD (shareO (lcO (rangeD (varD 2)) [9] (nameT 9) yesT (opD addD (opD ixD (varD 7) (varD 9)) (opD mulD (varD 17) (opD ixD (varD 13) (varD 9))))))))) encT (fun pre ρ g => ∃ (w : Bg) (y13 y17 : Sl), w.length = d ∧ (∀ x ∈ w, 0 ≤ x ∧ x ≤ 5 + 10 * (pre.length : Int)) ∧ Dr ms g ∧ ρ = TS d bs x4 (.sh (encT w)) x8 x9 x10 x11 x12 y13 x14 (.sh (encT b.1)) (.sh (raysD b.2)) y17) b.2
    (by
      rintro pre r post e ρ g ⟨w, y13, y17, hw1, hw2, hg, rfl⟩
      have hrm : r ∈ b.2 := by rw [e]; simp
      have R := B.rs r hrm
      have R5 := B5.rays r hrm
      obtain ⟨n, g', hn, hg', h⟩ := drawE hg (i := 1) (m := 3) (ρ := TS d bs x4 (.sh (encT w)) x8 x9 x10 x11 x12 (.sh (encT r)) x14 (.sh (encT b.1)) (.sh (raysD b.2)) y17) rfl (e := constD (.int 3)) (by decide) (fun _ => rfl)
      refine ⟨_, TS d bs x4 (.sh (encT (addV w r (n : Int)))) x8 x9 x10 x11 x12 (.sh (encT r)) x14 (.sh (encT b.1)) (.sh (raysD b.2)) (.sh (natD n)), g', rfl, .inl (Eq.trans (seq_eq (set_ok h)) (s_set1 (d := encT (addV w r (n : Int))) ?_ rfl)), addV w r (n : Int), _, _, by rw [addV_len]; exact hw1, fun x hx => ?_, hg', rfl⟩
      · have c := e_comp (ρ := TS d bs x4 (.sh (encT w)) x8 x9 x10 x11 x12 (.sh (encT r)) x14 (.sh (encT b.1)) (.sh (raysD b.2)) (.sh (natD n))) (g := g') (fi := rangeD (varD 2)) (own := [9]) (t := nameT 9) (e := opD addD (opD ixD (varD 7) (varD 9)) (opD mulD (varD 17) (opD ixD (varD 13) (varD 9)))) natD (fun k => PyData.int (at0 w k + (n : Int) * at0 r k)) (List.range d) (e_rangeN (e_var rfl) (by omega)) (by rw [List.length_range]; omega) fun k hk => by
          have hk := List.mem_range.mp hk
          exact ⟨_, rfl, e_op (e_op (e_var rfl) (e_var rfl) (ix_T w (by omega))) (e_op (e_var rfl) (e_op (e_var rfl) (e_var rfl) (ix_T r (by rw [R.len]; exact hk))) (mulS (by omega) _)) (addI _ _)⟩
        refine e_un (e_share c) ?_
        unfold addV encT
        rw [List.map_map, hw1]
        rfl
      · obtain ⟨k, hk, rfl⟩ := mem_at0 hx
        rw [addV_len] at hk
        rw [at0_addV hk]
        have h1 := hw2 _ (at0_mem hk)
        have hkr : k < r.length := by rw [R.len]; omega
        have h2 := (R.nn _ (at0_mem hkr)).1
        have h3 := R5 _ (at0_mem hkr)
        have hn2 : (n : Int) ≤ 2 := by omega
        have h4 : 0 ≤ (n : Int) * at0 r k := Int.mul_nonneg (by omega) h2
        have h5 : (n : Int) * at0 r k ≤ 2 * at0 r k := Int.mul_le_mul_of_nonneg_right hn2 h2
        rw [List.length_append]
        show 0 ≤ at0 w k + ↑n * at0 r k ∧ at0 w k + ↑n * at0 r k ≤ 5 + 10 * (((pre.length + 1 : Nat)) : Int)
        omega)
    (ρ := TS d bs x4 (.sh (encT b.1)) x8 x9 x10 x11 x12 x13 x14 (.sh (encT b.1)) (.sh (raysD b.2)) x17) (g := g1) ⟨b.1, x13, x17, hbl, fun x hx => by have := B.nn x hx; have := B5.base x hx; simp; omega, hg1, rfl⟩
  have few := B.few
  refine ⟨w, g2, y13, .sh (encT b.1), .sh (raysD b.2), y17, ⟨hw1, fun x hx => by have := hw2 x hx; omega⟩, hg2, ?_⟩
  refine Eq.trans (seq_eq (asg_ok (ρ1 := TS d bs x4 x7 x8 x9 x10 x11 x12 x13 x14 (.sh (encT b.1)) (.sh (raysD b.2)) x17) h1 rfl)) ?_
  exact Eq.trans (seq_eq (set_ok (vv rfl))) (for_run (items_ok (e_var rfl)) hf)
end
end K

set_option Elab.async false
set_option linter.all false
set_option maxRecDepth 100000
set_option maxHeartbeats 400000
namespace K
open PySem DL PyProof.Rows
section
variable {ms : List Int} {g : DL.G} {d : Nat} {r v rest b : Bg} {rs L : List Bg} {bs : List Bd}
abbrev toldD (bs : List Bd) (v : Bg) : PyData := .list (bs.map fun b => optC (cT b.1 b.2 v))
def goodL (bs : List Bd) (v : Bg) : List Nat := (List.range bs.length).filter fun k => (cTk bs v k).isSome
theorem nar_opt {b : Bd} (hb : b.2.length ≤ 3) : Nar 7 (optC (cT b.1 b.2 v)) := by
  cases e : cT b.1 b.2 v with
  | none => trivial
  | some c =>
    unfold cT at e
    split at e
    · have := fstC_len e
      exact nar_T (k := 5) (by omega)
    · cases e
theorem cTk_len (G : Gb d bs) {k : Nat} {c : List Int} (h : cTk bs v k = some c) : c.length ≤ 3 := by
  unfold cTk at h
  split at h
  · rename_i b hb
    have few := (G.b5 b (List.mem_of_getElem? hb)).bv.bu.few
    unfold cT at h
    split at h
    · have := fstC_len h
      omega
    · cases h
  · cases h
theorem told_list (G : Gb d bs) (hv : Bx d v) (x4 x8 x9 x10 x11 x12 x13 x14 x15 x16 x17 : Sl) : shareO (lcO (itemsD (varD 3)) [15, 16] (tupT (consT (nameT 15) (consT (nameT 16) nilT))) yesT (callD 3 m_law_counts (consD (varD 15) (consD (varD 16) (consD (varD 7) nilD))))) (TS d bs x4 (.sh (encT v)) x8 x9 x10 x11 x12 x13 x14 x15 x16 x17) g = .ok (toldD bs v) g := by
  have l3 := G.l3
  exact e_share (e_comp (ρ := TS d bs x4 (.sh (encT v)) x8 x9 x10 x11 x12 x13 x14 x15 x16 x17) (g := g) (fi := itemsD (varD 3)) (own := [15, 16]) (t := tupT (consT (nameT 15) (consT (nameT 16) nilT))) (e := callD 3 m_law_counts (consD (varD 15) (consD (varD 16) (consD (varD 7) nilD)))) encBd (fun b => optC (cT b.1 b.2 v)) bs (e_items (e_var rfl)) (by omega) fun b hb => ⟨(TS d bs x4 (.sh (encT v)) x8 x9 x10 x11 x12 x13 x14 (.sh (encT b.1)) (.sh (raysD b.2)) x17), rfl, e_call (e_cons (e_var rfl) (e_cons (e_var rfl) (e_cons (e_var rfl) e_nil))) rfl (lawCounts_ok hv (G.b5 b hb).bv.bu)⟩)
theorem ix_told {k : Nat} (hk : k < bs.length) : ixD (toldD bs v) (natD k) = some (optC (cTk bs v k)) := by
  refine (ix_map (fun b : Bd => optC (cT b.1 b.2 v)) bs k _ (List.getElem?_eq_getElem hk)).trans ?_
  unfold cTk
  rw [List.getElem?_eq_getElem hk]
/-- a loop that only looks -/
theorem look_loop {α : Type} (enc : α → PyData) (xs : List α) {i : Nat} {c : Te} {ρ : Nv} {g : DL.G} (hi : i < ρ.length) (h : ∀ x ∈ xs, ∀ z, c ((ρ.set i z).set i (.sh (enc x))) g = .ok false g) : ∃ z, forD (nameT i) (ifS c (retS (constD (.bool false))) nextS) (xs.map enc) ρ g = .nx (ρ.set i z) g := by
  obtain ⟨z0, hz0⟩ : ∃ z0, ρ = ρ.set i z0 := ⟨ρ[i], (List.set_getElem_self hi).symm⟩
  have key : ∀ xs : List α, (∀ x ∈ xs, ∀ z, c ((ρ.set i z).set i (.sh (enc x))) g = .ok false g) → ∀ z, ∃ z', forD (nameT i) (ifS c (retS (constD (.bool false))) nextS) (xs.map enc) (ρ.set i z) g = .nx (ρ.set i z') g := by
    intro xs
    induction xs with
    | nil => intro _ z; exact ⟨z, rfl⟩
    | cons x r ih =>
      intro h z
      obtain ⟨z', h'⟩ := ih (fun y hy => h y (List.mem_cons_of_mem _ hy)) (.sh (enc x))
      refine ⟨z', ?_⟩
      rw [List.map_cons]
      have ht : nameT i (enc x) (ρ.set i z) = some ((ρ.set i z).set i (.sh (enc x))) := by
        simp [nameT, hi]
      unfold forD
      rw [ht]
      simp only [skip (h x (by simp) z)]
      rw [List.set_set]
      exact h'
  rw [hz0]
  obtain ⟨z', h'⟩ := key xs h z0
  refine ⟨z', ?_⟩
  rw [h', List.set_set]
theorem counts_loop (G : Gb d bs) (hv : Bx d v) (x4 x9 x10 x11 x12 x13 x14 x15 x16 x17 : Sl) : ∃ z, forS (rangeD (unD lenD (varD 3))) (nameT 9)
  (ifS (notT (truthD (callD 2 m_law_equal (consD (callD 2 m_counts_for (consD (opD ixD (varD 3) (varD 9)) (consD (varD 7) nilD))) (consD (opD ixD (varD 8) (varD 9)) nilD)))))
  (retS (constD (.bool false)))
  nextS) (TS d bs x4 (.sh (encT v)) (.sh (toldD bs v)) x9 x10 x11 x12 x13 x14 x15 x16 x17) g = .nx (TS d bs x4 (.sh (encT v)) (.sh (toldD bs v)) z x10 x11 x12 x13 x14 x15 x16 x17) g := by
  have l3 := G.l3
  obtain ⟨z, h⟩ := look_loop (g := g) natD (List.range bs.length) (i := 9) (c := notT (truthD (callD 2 m_law_equal (consD (callD 2 m_counts_for (consD (opD ixD (varD 3) (varD 9)) (consD (varD 7) nilD))) (consD (opD ixD (varD 8) (varD 9)) nilD))))) (ρ := TS d bs x4 (.sh (encT v)) (.sh (toldD bs v)) x9 x10 x11 x12 x13 x14 x15 x16 x17) (Nat.lt_of_sub_pos (by exact Nat.zero_lt_succ 8)) fun k hk z => by
    have hk := List.mem_range.mp hk
    have hb := List.getElem?_eq_getElem hk
    have B := G.b5 _ (List.getElem_mem hk)
    have ht : opD ixD (varD 8) (varD 9) (((TS d bs x4 (.sh (encT v)) (.sh (toldD bs v)) x9 x10 x11 x12 x13 x14 x15 x16 x17).set 9 z).set 9 (.sh (natD k))) g = .ok (optC (cT bs[k].1 bs[k].2 v)) g := by
      refine e_op (e_var rfl) (e_var rfl) ((ix_told hk).trans ?_)
      unfold cTk
      rw [hb]
    exact eq_no (e_call (e_cons (e_op (e_var rfl) (e_var rfl) (ix_bundles hb)) (e_cons (e_var rfl) e_nil)) rfl (countsFor_ok B.bv hv)) ht (nar_opt B.bv.bu.few)
  exact ⟨z, s_for (e_rangeN (e_un (e_var rfl) (len_bundles bs)) (by omega)) h⟩
theorem good_list (G : Gb d bs) (x4 x7 x9 x10 x11 x12 x13 x14 x15 x16 x17 : Sl) : lcO (rangeD (unD lenD (varD 3))) [9] (nameT 9) (boolD (unD notNoneD (opD ixD (varD 8) (varD 9)))) (varD 9) (TS d bs x4 x7 (.sh (toldD bs v)) x9 x10 x11 x12 x13 x14 x15 x16 x17) g = .ok (.lst ((goodL bs v).map natD)) g := by
  have l3 := G.l3
  exact e_compF (ρ := TS d bs x4 x7 (.sh (toldD bs v)) x9 x10 x11 x12 x13 x14 x15 x16 x17) (g := g) (fi := rangeD (unD lenD (varD 3))) (own := [9]) (t := nameT 9) (c := boolD (unD notNoneD (opD ixD (varD 8) (varD 9)))) (e := varD 9) natD (fun k => (cTk bs v k).isSome) natD (List.range bs.length) (e_rangeN (e_un (e_var rfl) (len_bundles bs)) (by omega)) (by rw [List.length_range]; omega) fun k hk => by
    have hk := List.mem_range.mp hk
    refine ⟨_, rfl, e_bool (e_un (e_op (e_var rfl) (e_var rfl) (ix_told hk)) ?_), fun _ => e_var rfl⟩
    cases cTk bs v k <;> rfl
theorem good_way (bs : List Bd) (v : Bg) : wayK bs v = (goodL bs v).head? := by
  unfold wayK goodL
  rw [List.head?_filter]
theorem good_mem {k : Nat} (h : k ∈ goodL bs v) : k < bs.length ∧ ∃ c, cTk bs v k = some c := by
  unfold goodL at h
  obtain ⟨h1, h2⟩ := List.mem_filter.mp h
  exact ⟨List.mem_range.mp h1, Option.isSome_iff_exists.mp h2⟩
theorem asked (G : Gb d bs) (hv : Bx d v) (x4 x9 x11 x12 x13 x14 x15 x16 x17 : Sl) : orT (notT (truthD (callD 2 m_law_equal (consD (callD 2 m_has_vector (consD (varD 3) (consD (varD 7) nilD))) (consD (opD (cmpD fun i j => decide (j < i)) (unD lenD (varD 10)) (constD (.int 0))) nilD))))) (notT (truthD (callD 2 m_law_equal (consD (callD 2 m_way_in (consD (varD 3) (consD (varD 7) nilD))) (consD (ifD (boolD (opD (cmpD fun i j => decide (j < i)) (unD lenD (varD 10)) (constD (.int 0)))) (tupD (consD (opD ixD (varD 10) (constD (.int 0))) (consD (opD ixD (varD 8) (opD ixD (varD 10) (constD (.int 0)))) nilD))) (constD .none)) nilD))))) (TS d bs x4 (.sh (encT v)) (.sh (toldD bs v)) x9 (.sh (.list ((goodL bs v).map natD))) x11 x12 x13 x14 x15 x16 x17) g = .ok false g := by
  have C := G.cm hv
  have hW := good_way bs v
  have hlen : ∀ l : List Nat, lenD (.list (l.map natD)) = some (natD l.length) := fun l => by
    show some (PyData.int (((l.map natD).length : Nat) : Int)) = _
    rw [List.length_map]
  have hgt : opD (cmpD fun i j => decide (j < i)) (unD lenD (varD 10)) (constD (.int 0)) (TS d bs x4 (.sh (encT v)) (.sh (toldD bs v)) x9 (.sh (.list ((goodL bs v).map natD))) x11 x12 x13 x14 x15 x16 x17) g = .ok (.bool (wayK bs v).isSome) g := by
    refine e_op (e_un (e_var rfl) (hlen _)) e_const ?_
    rw [gtI, hW]
    cases goodL bs v with
    | nil => rfl
    | cons a r => exact congrArg (fun b => some (PyData.bool b)) (decide_eq_true (by rw [List.length_cons]; omega))
  refine e_or (x := false) (y := false) (eq_no (e_call (e_cons (e_var rfl) (e_cons (e_var rfl) e_nil)) rfl (hasVector_ok C.hb C.hl C.hv C.d1 C.d3)) hgt trivial) fun _ => eq_no (e_call (e_cons (e_var rfl) (e_cons (e_var rfl) e_nil)) rfl (wayIn_ok C.hb C.hl C.hv C.d1 C.d3)) ?_ ?_
  · refine e_if (e_bool hgt) (fun hs => ?_) fun hs => ?_
    · unfold wayD
      cases hg : goodL bs v with
      | nil => rw [hW, hg] at hs; cases hs
      | cons k r =>
        obtain ⟨hk, _⟩ := good_mem (bs := bs) (v := v) (k := k) (by rw [hg]; simp)
        rw [hW, hg]
        have h0 : opD ixD (varD 10) (constD (.int 0)) (TS d bs x4 (.sh (encT v)) (.sh (toldD bs v)) x9 (.sh (.list ((k :: r).map natD))) x11 x12 x13 x14 x15 x16 x17) g = .ok (natD k) g := e_op (e_var rfl) e_const (ix0L _ _)
        exact e_tup (e_cons h0 (e_cons (e_op (e_var rfl) h0 (ix_told hk)) e_nil)) rfl
    · unfold wayD
      cases hg : wayK bs v with
      | none => exact e_const
      | some k => rw [hg] at hs; cases hs
  · unfold wayD
    cases hg : wayK bs v with
    | none => trivial
    | some k =>
      refine ⟨by simp, fun x hx => ?_⟩
      simp only [List.mem_cons, List.not_mem_nil, or_false] at hx
      rcases hx with rfl | rfl
      · trivial
      · cases hc : cTk bs v k with
        | none => trivial
        | some c =>
          have := cTk_len G hc
          exact nar_T (k := 4) (by omega)
end
end K

set_option Elab.async false
set_option linter.all false
set_option maxRecDepth 100000
set_option maxHeartbeats 400000
namespace K
open PySem DL PyProof.Rows
section
variable {ms : List Int} {g : DL.G} {d : Nat} {r v rest b : Bg} {rs L : List Bg} {bs : List Bd}
theorem drop_T {b : Bg} {k : Nat} (h : k ≤ b.length) {ρ : Nv} {g : DL.G} {e f : Ex} (he : e ρ g = .ok (encT b) g) (hf : f ρ g = .ok (natD k) g) : slD e (somePart f) noPart ρ g = .ok (encT (b.drop k)) g := by
  have h2 := cut_hi (b.map PyData.int) k (by rw [List.length_map]; exact h)
  have : slD e (somePart f) noPart ρ g = .ok (.tuple (cutP (b.map PyData.int) (some (k : Int)) none)) g := by
    have he' : e ρ g = .ok (.tuple (b.map PyData.int)) g := he
    simp [he', hf]
  rw [this, h2, ← List.map_drop]
  rfl
structure Tr (d : Nat) (bs : List Bd) (v : Bg) (T : List PyData) : Prop where
  al : ∀ t ∈ T, ∀ g, Alike bs v g t
theorem Tr.snoc {T : List PyData} (h : Tr d bs v T) {t : PyData} (ht : ∀ g, Alike bs v g t) : Tr d bs v (T ++ [t]) := ⟨fun x hx => by
  rcases List.mem_append.mp hx with w | w
  · exact h.al x w
  · rw [List.mem_singleton.mp w]; exact ht⟩
theorem tried0 (G : Gb d bs) (hv : Bx d v) (x4 x9 x11 x12 x13 x14 x15 x16 x17 : Sl) : ∃ T, Tr d bs v T ∧ T.length = 8 ∧ lstO (consD (constD .none) (consD (tupD (consD (constD (.int 0)) nilD)) (consD (tupD (consD (unD lenD (varD 3)) (consD (tupD nilD) nilD))) (consD (tupD (consD (constD (.int 0)) (consD (constD .none) nilD))) (consD (tupD (consD (unD negD (constD (.int 1))) (consD (tupD nilD) nilD))) (consD (tupD (consD (constD (.bool true)) (consD (tupD nilD) nilD))) (consD (tupD (consD (constD (.int 0)) (consD (opD mulD (shareO (lstO (consD (constD (.int 0)) nilD))) (unD lenD (opD ixD (opD ixD (varD 3) (constD (.int 0))) (constD (.int 1))))) nilD))) (consD (tupD (consD (constD (.int 0)) (consD (opD mulD (tupD (consD (constD (.int 0)) nilD)) (opD addD (unD lenD (opD ixD (opD ixD (varD 3) (constD (.int 0))) (constD (.int 1)))) (constD (.int 1)))) nilD))) nilD)))))))) (TS d bs x4 (.sh (encT v)) (.sh (toldD bs v)) x9 (.sh (.list ((goodL bs v).map natD))) x11 x12 x13 x14 x15 x16 x17) g = .ok (.lst T) g := by
  have C := G.cm hv
  have l1 := G.l1
  have h0 : bs[0]? = some bs[0] := List.getElem?_eq_getElem l1
  have few := (G.b5 _ (List.getElem_mem l1)).bv.bu.few
  have hn : unD lenD (opD ixD (opD ixD (varD 3) (constD (.int 0))) (constD (.int 1))) (TS d bs x4 (.sh (encT v)) (.sh (toldD bs v)) x9 (.sh (.list ((goodL bs v).map natD))) x11 x12 x13 x14 x15 x16 x17) g = .ok (natD bs[0].2.length) g :=
    e_un (e_op (e_op (e_var rfl) e_const (ix_bundles (k := 0) h0)) e_const (ix1 _ _ _)) (len_rays _)
  have m1 := mul_list (.int 0) bs[0].2.length (by omega)
  have m2 := mul_tup (.int 0) (bs[0].2.length + 1) (by omega) (by omega)
  have e2 : (PyData.tuple (List.replicate (bs[0].2.length + 1) (.int 0))) = encT (List.replicate (bs[0].2.length + 1) 0) := by unfold encT; rw [List.map_replicate]
  refine ⟨[.none, .tuple [.int 0], .tuple [natD bs.length, .tuple []], .tuple [.int 0, .none], .tuple [.int (-1), .tuple []], .tuple [.bool true, .tuple []], .tuple [.int 0, .list (List.replicate bs[0].2.length (.int 0))], .tuple [natD 0, encT (List.replicate (bs[0].2.length + 1) 0)]], ⟨fun t ht g => ?_⟩, rfl, ?_⟩
  · simp only [List.mem_cons, List.not_mem_nil, or_false] at ht
    rcases ht with rfl | rfl | rfl | rfl | rfl | rfl | rfl | rfl
    · exact al_no C rfl
    · exact al_len C _
    · exact al_out C _ (by omega)
    · exact al_y C (k := 0) h0 rfl
    · exact al_out C _ (by omega)
    · exact al_bool C _ _
    · exact al_y C (k := 0) h0 rfl
    · exact al_c C h0 (by rw [List.length_replicate]; omega)
  · refine e_lst (e_cons e_const (e_cons (e_tup (e_cons e_const e_nil) rfl) (e_cons (e_tup (e_cons (e_un (e_var rfl) (len_bundles bs)) (e_cons (e_tup e_nil rfl) e_nil)) rfl) (e_cons (e_tup (e_cons e_const (e_cons e_const e_nil)) rfl) (e_cons (e_tup (e_cons (e_un e_const rfl) (e_cons (e_tup e_nil rfl) e_nil)) rfl) (e_cons (e_tup (e_cons e_const (e_cons (e_tup e_nil rfl) e_nil)) rfl) (e_cons (e_tup (e_cons e_const (e_cons (e_op (e_share (e_lst (e_cons e_const e_nil) rfl)) hn m1) e_nil)) rfl) (e_cons (e_tup (e_cons e_const (e_cons (e_op (e_tup (e_cons e_const e_nil) rfl) (e_op hn e_const (addI _ _)) ?_) e_nil)) rfl) e_nil)))))))) rfl
    rw [← e2]
    exact m2
abbrev TT (d : Nat) (bs : List Bd) (v : Bg) (T : List PyData) (x4 x9 x12 x13 x14 x15 x16 x17 : Sl) : Nv := TS d bs x4 (.sh (encT v)) (.sh (toldD bs v)) x9 (.sh (.list ((goodL bs v).map natD))) (.ow (.lst T)) x12 x13 x14 x15 x16 x17
noncomputable abbrev turnedS : Sm := (seqS (appS 11 (tupD (consD (varD 9) (consD (opD addD (opD addD (slD (opD ixD (varD 8) (varD 9)) noPart (somePart (varD 14))) (tupD (consD (opD addD (opD ixD (opD ixD (varD 8) (varD 9)) (varD 14)) (constD (.int 1))) nilD))) (slD (opD ixD (varD 8) (varD 9)) (somePart (opD addD (varD 14) (constD (.int 1)))) noPart)) nilD))))
  (appS 11 (tupD (consD (varD 9) (consD (opD addD (opD addD (slD (opD ixD (varD 8) (varD 9)) noPart (somePart (varD 14))) (tupD (consD (opD subD (opD ixD (opD ixD (varD 8) (varD 9)) (varD 14)) (constD (.int 1))) nilD))) (slD (opD ixD (varD 8) (varD 9)) (somePart (opD addD (varD 14) (constD (.int 1)))) noPart)) nilD)))))
theorem turned_one (G : Gb d bs) (hv : Bx d v) {k j : Nat} {c : List Int} (hk : k < bs.length) (hc : cTk bs v k = some c) (hj : j < c.length) {T : List PyData} (hT : Tr d bs v T) (hl : T.length ≤ 1000) (x4 x12 x13 x15 x16 x17 : Sl) : ∃ T', Tr d bs v T' ∧ T'.length = T.length + 2 ∧ turnedS (TT d bs v T x4 (.sh (natD k)) x12 x13 (.sh (natD j)) x15 x16 x17) g = .nx (TT d bs v T' x4 (.sh (natD k)) x12 x13 (.sh (natD j)) x15 x16 x17) g := by
  have C := G.cm hv
  have cl := cTk_len G hc
  have ht : ∀ T, opD ixD (varD 8) (varD 9) (TT d bs v T x4 (.sh (natD k)) x12 x13 (.sh (natD j)) x15 x16 x17) g = .ok (encT c) g := fun T => by
    refine e_op (e_var rfl) (e_var rfl) ((ix_told hk).trans ?_)
    rw [hc]
    rfl
  have key : ∀ (T : List PyData) (o : PyData → PyData → Option PyData) (w : Int), o (.int (at0 c j)) (.int 1) = some (.int w) → tupD (consD (varD 9) (consD (opD addD (opD addD (slD (opD ixD (varD 8) (varD 9)) noPart (somePart (varD 14))) (tupD (consD (opD o (opD ixD (opD ixD (varD 8) (varD 9)) (varD 14)) (constD (.int 1))) nilD))) (slD (opD ixD (varD 8) (varD 9)) (somePart (opD addD (varD 14) (constD (.int 1)))) noPart)) nilD)) (TT d bs v T x4 (.sh (natD k)) x12 x13 (.sh (natD j)) x15 x16 x17) g = .ok (.tuple [natD k, encT (c.take j ++ [w] ++ c.drop (j + 1))]) g := fun T o w ho => by
    have t1 := cut_T (g := g) (b := c) (k := j) (by omega) (ht T) (f := varD 14) (e_var rfl)
    have t2 := drop_T (g := g) (b := c) (k := j + 1) (by omega) (ht T) (f := opD addD (varD 14) (constD (.int 1))) (e_op (e_var rfl) e_const (addI _ _))
    have a1 : addD (encT (c.take j)) (.tuple [.int w]) = some (encT (c.take j ++ [w])) := add_T (b := [w]) (by rw [List.length_take]; show _ + 1 ≤ 1000; omega)
    have a2 : addD (encT (c.take j ++ [w])) (encT (c.drop (j + 1))) = some (encT (c.take j ++ [w] ++ c.drop (j + 1))) := add_T (by rw [List.length_append, List.length_take, List.length_drop]; show _ + 1 + _ ≤ 1000; omega)
    exact e_tup (e_cons (e_var rfl) (e_cons (e_op (e_op t1 (e_tup (e_cons (e_op (e_op (ht T) (e_var rfl) (ix_T c hj)) e_const ho) e_nil) rfl) a1) t2 a2) e_nil)) rfl
  have hcl : ∀ w : Int, (c.take j ++ [w] ++ c.drop (j + 1)).length ≤ 1000 := fun w => by rw [List.length_append, List.length_append, List.length_take, List.length_drop]; show _ + 1 + _ ≤ 1000; omega
  obtain ⟨bk, hbk⟩ : ∃ b, bs[k]? = some b := ⟨_, List.getElem?_eq_getElem hk⟩
  refine ⟨T ++ [.tuple [natD k, encT (c.take j ++ [at0 c j + 1] ++ c.drop (j + 1))]] ++ [.tuple [natD k, encT (c.take j ++ [at0 c j - 1] ++ c.drop (j + 1))]], (hT.snoc fun g => al_c C hbk (hcl _)).snoc fun g => al_c C hbk (hcl _), by rw [List.length_append, List.length_append]; rfl, ?_⟩
  exact Eq.trans (seq_eq (s_app1 rfl (key _ addD _ (addI _ _)) (by omega) rfl)) (s_app1 rfl (key _ subD _ (subI _ _)) (by rw [List.length_append]; show T.length + 1 < _; omega) rfl)
theorem tried_one (G : Gb d bs) (hv : Bx d v) {k : Nat} (hk : k ∈ goodL bs v) {T : List PyData} (hT : Tr d bs v T) (hl : T.length ≤ 500) (x4 x12 x13 x14 x15 x16 x17 : Sl) : ∃ T' y14, Tr d bs v T' ∧ T'.length ≤ T.length + 8 ∧ (seqS (appS 11 (tupD (consD (varD 9) (consD (opD ixD (varD 8) (varD 9)) nilD))))
  (seqS (appS 11 (shareO (lstO (consD (varD 9) (consD (opD ixD (varD 8) (varD 9)) nilD)))))
  (forS (rangeD (unD lenD (opD ixD (varD 8) (varD 9)))) (nameT 14) turnedS))) (TT d bs v T x4 (.sh (natD k)) x12 x13 x14 x15 x16 x17) g = .nx (TT d bs v T' x4 (.sh (natD k)) x12 x13 y14 x15 x16 x17) g := by
  have C := G.cm hv
  obtain ⟨hk, c, hc⟩ := good_mem hk
  have cl := cTk_len G hc
  obtain ⟨bk, hbk⟩ : ∃ b, bs[k]? = some b := ⟨_, List.getElem?_eq_getElem hk⟩
  have ht : ∀ T, opD ixD (varD 8) (varD 9) (TT d bs v T x4 (.sh (natD k)) x12 x13 x14 x15 x16 x17) g = .ok (encT c) g := fun T => by
    refine e_op (e_var rfl) (e_var rfl) ((ix_told hk).trans ?_)
    rw [hc]
    rfl
  have hT2 : Tr d bs v (T ++ [.tuple [natD k, encT c]] ++ [.list [natD k, encT c]]) := (hT.snoc fun g => al_c C hbk (by omega)).snoc fun g => al_no C rfl
  obtain ⟨ρ', hR, hf⟩ := forD_acc (t := nameT 14) (body := turnedS) natD (fun pre ρ => ∃ T' y14, Tr d bs v T' ∧ T'.length = T.length + 2 + 2 * pre.length ∧ ρ = TT d bs v T' x4 (.sh (natD k)) x12 x13 y14 x15 x16 x17) g (List.range c.length)
    (by
      rintro pre j post e ρ ⟨T', y14, h1, h2, rfl⟩
      have hj : j < c.length := List.mem_range.mp (by rw [e]; simp)
      have hlen := congrArg List.length e
      rw [List.length_range, List.length_append, List.length_cons] at hlen
      obtain ⟨T2, k1, k2, k3⟩ := turned_one (g := g) G hv hk hc hj h1 (by omega) x4 x12 x13 x15 x16 x17
      exact ⟨_, _, rfl, k3, T2, _, k1, by rw [k2, h2, List.length_append]; show _ = T.length + 2 + 2 * (pre.length + 1); omega, rfl⟩)
    (TT d bs v (T ++ [.tuple [natD k, encT c]] ++ [.list [natD k, encT c]]) x4 (.sh (natD k)) x12 x13 x14 x15 x16 x17) ⟨_, _, hT2, by rw [List.length_append, List.length_append]; rfl, rfl⟩
  obtain ⟨T', y14, h1, h2, rfl⟩ := hR
  rw [List.length_range] at h2
  refine ⟨T', y14, h1, by omega, ?_⟩
  refine Eq.trans (seq_eq (s_app1 rfl (e_tup (e_cons (e_var rfl) (e_cons (ht _) e_nil)) rfl) (by omega) rfl)) ?_
  refine Eq.trans (seq_eq (s_app1 rfl (e_share (e_lst (e_cons (e_var rfl) (e_cons (ht (T ++ [.tuple [natD k, encT c]])) e_nil)) rfl)) (by rw [List.length_append]; show T.length + 1 < _; omega) rfl)) ?_
  exact s_for (e_rangeN (e_un (ht (T ++ [.tuple [natD k, encT c]] ++ [.list [natD k, encT c]])) (len_T c)) (by omega)) hf
theorem tried_all (G : Gb d bs) (hv : Bx d v) {T : List PyData} (hT : Tr d bs v T) (hl : T.length = 8) (x4 x9 x12 x13 x14 x15 x16 x17 : Sl) : ∃ T' y9 y14, Tr d bs v T' ∧ T'.length ≤ 100 ∧ forS (itemsD (varD 10)) (nameT 9) (seqS (appS 11 (tupD (consD (varD 9) (consD (opD ixD (varD 8) (varD 9)) nilD))))
  (seqS (appS 11 (shareO (lstO (consD (varD 9) (consD (opD ixD (varD 8) (varD 9)) nilD)))))
  (forS (rangeD (unD lenD (opD ixD (varD 8) (varD 9)))) (nameT 14) turnedS))) (TT d bs v T x4 x9 x12 x13 x14 x15 x16 x17) g = .nx (TT d bs v T' x4 y9 x12 x13 y14 x15 x16 x17) g := by
  have l3 := G.l3
  have hgl : (goodL bs v).length ≤ 3 := by
    unfold goodL
    exact Nat.le_trans (List.length_filter_le _ _) (by rw [List.length_range]; exact l3)
  obtain ⟨ρ', ⟨T', y9, y14, h1, h2, rfl⟩, hf⟩ := forD_acc (t := nameT 9) (body := seqS (appS 11 (tupD (consD (varD 9) (consD (opD ixD (varD 8) (varD 9)) nilD))))
  (seqS (appS 11 (shareO (lstO (consD (varD 9) (consD (opD ixD (varD 8) (varD 9)) nilD)))))
  (forS (rangeD (unD lenD (opD ixD (varD 8) (varD 9)))) (nameT 14) turnedS))) natD (fun pre ρ => ∃ T' y9 y14, Tr d bs v T' ∧ T'.length ≤ 8 + 8 * pre.length ∧ ρ = TT d bs v T' x4 y9 x12 x13 y14 x15 x16 x17) g (goodL bs v)
    (by
      rintro pre k post e ρ ⟨T', y9, y14, h1, h2, rfl⟩
      have hlen := congrArg List.length e
      rw [List.length_append, List.length_cons] at hlen
      obtain ⟨T2, z14, k1, k2, k3⟩ := tried_one (g := g) G hv (k := k) (by rw [e]; simp) h1 (by omega) x4 x12 x13 y14 x15 x16 x17
      exact ⟨_, _, rfl, k3, T2, _, _, k1, by rw [List.length_append]; show _ ≤ 8 + 8 * (pre.length + 1); omega, rfl⟩)
    (TT d bs v T x4 x9 x12 x13 x14 x15 x16 x17) ⟨T, x9, x14, hT, by rw [hl]; simp, rfl⟩
  exact ⟨T', y9, y14, h1, by omega, s_for (e_items (e_var rfl)) hf⟩
theorem judged_loop (hT : Tr d bs v L') {x4 x9 x12 x13 x14 x15 x16 x17 : Sl} (hl : L'.length ≤ 100) : ∃ z, forS (itemsD (varD 11)) (nameT 12)
  (ifS (notT (truthD (callD 2 m_law_equal (consD (callD 3 m_is_way_in (consD (varD 3) (consD (varD 7) (consD (varD 12) nilD)))) (consD (callD 3 m_law_right (consD (varD 3) (consD (varD 7) (consD (varD 12) nilD)))) nilD)))))
  (retS (constD (.bool false)))
  nextS) (TS d bs x4 (.sh (encT v)) (.sh (toldD bs v)) x9 (.sh (.list ((goodL bs v).map natD))) (.sh (.list L')) x12 x13 x14 x15 x16 x17) g = .nx (TS d bs x4 (.sh (encT v)) (.sh (toldD bs v)) x9 (.sh (.list ((goodL bs v).map natD))) (.sh (.list L')) z x13 x14 x15 x16 x17) g := by
  obtain ⟨z, h⟩ := look_loop (g := g) (fun x : PyData => x) L' (i := 12) (c := notT (truthD (callD 2 m_law_equal (consD (callD 3 m_is_way_in (consD (varD 3) (consD (varD 7) (consD (varD 12) nilD)))) (consD (callD 3 m_law_right (consD (varD 3) (consD (varD 7) (consD (varD 12) nilD)))) nilD))))) (ρ := TS d bs x4 (.sh (encT v)) (.sh (toldD bs v)) x9 (.sh (.list ((goodL bs v).map natD))) (.sh (.list L')) x12 x13 x14 x15 x16 x17) (Nat.lt_of_sub_pos (by exact Nat.zero_lt_succ 5)) fun t ht z => by
    obtain ⟨q, q1, q2⟩ := hT.al t ht g
    exact eq_no (e_call (e_cons (e_var rfl) (e_cons (e_var rfl) (e_cons (e_var rfl) e_nil))) rfl q1) (e_call (e_cons (e_var rfl) (e_cons (e_var rfl) (e_cons (e_var rfl) e_nil))) rfl q2) trivial
  rw [List.map_id'] at h
  exact ⟨z, s_for (e_items (e_var rfl)) h⟩
end
end K

set_option Elab.async false
set_option linter.all false
set_option maxRecDepth 100000
set_option maxHeartbeats 400000
namespace K
open PySem DL PyProof.Rows
section
/-! ### what is refused -/
variable {g : DL.G} {d : Nat} {v b : Bg} {L : List Bg} {bs : List Bd}
theorem drop_ex {e : Ex} {k : Nat} {ρ : Nv} {g g1 : DL.G} (h : e ρ g = .ex k g1) : dropS e ρ g = .ex k ρ g1 := by
  rw [dropS_ap, h]
theorem call_ex {n k : Nat} {m : Fn} {fa : Ar} {ds : List PyData} {ρ : Nv} {g g1 g2 : DL.G} (h : fa ρ g = .ok ds g1) (hl : ds.length = n) (hm : m ds g1 = .ex k g2) : callD n m fa ρ g = .ex k g2 := by
  simp [h, hl, hm]
theorem isb_0 {w : PyData} (h : ∀ a b, w ≠ .tuple [.tuple a, b]) (hw : w = .none ∨ w = .tuple []) : m_is_bundle [w] g = .ok (.bool false) g := by
  unfold m_is_bundle
  refine f_rt ?_
  unfold b_is_bundle
  rcases hw with rfl | rfl
  · exact seq_rt (Eq.trans (if_yes (orT_yes (e_not (b := false) (e_truth (d := .bool false) (e_un (x := .none) (e_var rfl) rfl) rfl)))) (s_ret e_const))
  · exact seq_rt (Eq.trans (if_yes (Eq.trans (orT_no (is_tup rfl)) (orT_yes (e_bool (e_op (e_un (x := .tuple []) (e_var rfl) rfl) e_const rfl))))) (s_ret e_const))
theorem isb_1 {ds : List PyData} {y : PyData} {q : Bool} (hr : m_is_row [.tuple ds, natD ds.length, .int 0, .int 1000000] g = .ok (.bool q) g) (h : ¬ (1 ≤ ds.length ∧ ds.length ≤ 3 ∧ q = true)) : m_is_bundle [.tuple [.tuple ds, y]] g = .ok (.bool false) g := by
  unfold m_is_bundle
  refine f_rt ?_
  unfold b_is_bundle
  show seqS _ _ [.sh (.tuple [.tuple ds, y]), .no, .no, .no] g = _
  have i0 : ∀ {ρ : Nv}, ρ[0]? = some (.sh (.tuple [.tuple ds, y])) → opD ixD (varD 0) (constD (.int 0)) ρ g = .ok (.tuple ds) g := fun h => e_op (e_var h) e_const (ix0 _ _)
  refine Eq.trans (seq_eq (s_skip (e_or (x := false) (y := false) (is_tup rfl) fun _ => e_or (x := false) (y := false) (e_bool (e_op (e_un (x := .tuple [.tuple ds, y]) (e_var rfl) rfl) e_const rfl)) fun _ => e_not (b := true) (e_truth (d := .bool true) (e_un (i0 rfl) rfl) rfl)))) ?_
  refine s_set (d := natD ds.length) (e_un (i0 rfl) rfl) (seq_rt (Eq.trans (if_yes (g1 := g) ?_) (s_ret e_const)))
  have ch : chainD leDD leDD (constD (.int 1)) (varD 1) (constD (.int 3)) [.sh (.tuple [.tuple ds, y]), .sh (natD ds.length), .no, .no] g = .ok (.bool (decide ((1 : Int) ≤ ds.length) && decide ((ds.length : Int) ≤ 3))) g := e_chain e_const (e_var rfl) (leD_I _ _) e_const (leD_I _ _)
  have hc := e_not (e_bool ch)
  cases hq : (decide ((1 : Int) ≤ ds.length) && decide ((ds.length : Int) ≤ 3)) with
  | false =>
    rw [hq] at hc
    exact orT_yes hc
  | true =>
    rw [hq] at hc
    rw [Bool.and_eq_true, decide_eq_true_eq, decide_eq_true_eq] at hq
    have : q = false := by
      cases q with
      | false => rfl
      | true => exact absurd ⟨by omega, by omega, rfl⟩ h
    subst this
    exact Eq.trans (orT_no hc) (e_not (b := false) (e_truth (e_call (e_cons (i0 rfl) (e_cons (e_var rfl) (e_cons e_const (e_cons e_const e_nil)))) rfl hr) rfl))
/-- the base (0,): behind the second test -/
theorem isb_2 {y : PyData} {q : Bool} (h : (seqS (ifS (orT (notT (truthD (unD (isiD "list") (opD ixD (varD 0) (constD (.int 1)))))) (boolD (opD gtDD (unD lenD (opD ixD (varD 0) (constD (.int 1)))) (constD (.int 12)))))
  (retS (constD (.bool false)))
  nextS)
  (seqS (ifS (truthD (shareO (lcO (itemsD (opD ixD (varD 0) (constD (.int 1)))) [2] (nameT 2) (orT (notT (truthD (callD 4 m_is_row (consD (varD 2) (consD (varD 1) (consD (constD (.int 0)) (consD (constD (.int 10000)) nilD))))))) (boolD (opD eqD (unD maxDD (varD 2)) (constD (.int 0))))) (varD 2))))
  (retS (constD (.bool false)))
  nextS)
  (retS (opD eqD (shareO (lcO (range2D (constD (.int 1)) (unD lenD (opD ixD (varD 0) (constD (.int 1))))) [3] (nameT 3) (boolD (opD geDD (opD ixD (opD ixD (varD 0) (constD (.int 1))) (opD subD (varD 3) (constD (.int 1)))) (opD ixD (opD ixD (varD 0) (constD (.int 1))) (varD 3)))) (varD 3))) (shareO (lstO nilD)))))) [.sh (.tuple [encT [0], y]), .sh (natD 1), .no, .no] g = .rt (.bool q) g) : m_is_bundle [.tuple [encT [0], y]] g = .ok (.bool q) g := by
  unfold m_is_bundle
  refine f_rt ?_
  unfold b_is_bundle
  show seqS _ _ [.sh (.tuple [encT [0], y]), .no, .no, .no] g = _
  have i0 : ∀ {ρ : Nv}, ρ[0]? = some (.sh (.tuple [encT [0], y])) → opD ixD (varD 0) (constD (.int 0)) ρ g = .ok (encT [0]) g := fun h => e_op (e_var h) e_const (ix0 _ _)
  refine Eq.trans (seq_eq (s_skip (e_or (x := false) (y := false) (is_tup rfl) fun _ => e_or (x := false) (y := false) (e_bool (e_op (e_un (x := .tuple [encT [0], y]) (e_var rfl) rfl) e_const rfl)) fun _ => e_not (b := true) (e_truth (d := .bool true) (e_un (i0 rfl) rfl) rfl)))) ?_
  refine s_set (d := natD 1) (e_un (i0 rfl) rfl) ?_
  have r0 := row_ok (g := g) (b := [0]) (n := 1) (lo := 0) (hi := 1000000) (by decide)
  rw [show rowB 1 0 1000000 [0] = true by decide] at r0
  have ch : chainD leDD leDD (constD (.int 1)) (varD 1) (constD (.int 3)) [.sh (.tuple [encT [0], y]), .sh (natD 1), .no, .no] g = .ok (.bool (true && true)) g := e_chain e_const (e_var rfl) (leD_I _ _) e_const (leD_I _ _)
  exact Eq.trans (seq_eq (s_skip (e_or (x := false) (y := false) (e_not (b := true) (e_bool ch)) fun _ => e_not (b := true) (e_truth (e_call (e_cons (i0 rfl) (e_cons (e_var rfl) (e_cons e_const (e_cons e_const e_nil)))) rfl r0) rfl)))) h
theorem isb_3 {ds : List PyData} : m_is_bundle [.tuple [encT [0], .tuple ds]] g = .ok (.bool false) g :=
  isb_2 (seq_rt (Eq.trans (if_yes (orT_yes (e_not (b := false) (e_truth (d := .bool false) (e_un (e_op (e_var rfl) e_const (ix1 _ _ _)) rfl) rfl)))) (s_ret e_const)))
theorem isb_4 {p : Bg → Bool} (hL : L.length ≤ 12) (hp : ∀ r ∈ L, ∀ ρ : Nv, ρ[2]? = some (.sh (encT r)) → ρ[1]? = some (.sh (natD 1)) → orT (notT (truthD (callD 4 m_is_row (consD (varD 2) (consD (varD 1) (consD (constD (.int 0)) (consD (constD (.int 10000)) nilD))))))) (boolD (opD eqD (unD maxDD (varD 2)) (constD (.int 0)))) ρ g = .ok (p r) g) (h : L.filter p ≠ [] ∨ (L.filter p = [] ∧ ∃ r0 r1, L = [r0, r1] ∧ ¬ r0 < r1)) : m_is_bundle [.tuple [encT [0], raysD L]] g = .ok (.bool false) g := by
  have i1 : ∀ {ρ : Nv}, ρ[0]? = some (.sh (.tuple [encT [0], raysD L])) → opD ixD (varD 0) (constD (.int 1)) ρ g = .ok (raysD L) g := fun h => e_op (e_var h) e_const (ix1 _ _ _)
  refine isb_2 ?_
  refine Eq.trans (seq_eq (s_skip (e_or (x := false) (y := false) (e_not (b := true) (e_truth (d := .bool true) (e_un (i1 rfl) rfl) rfl)) fun _ => e_bool (e_op (e_un (i1 rfl) (len_rays L)) e_const (by rw [gtD_I, decide_eq_false (by omega)]))))) ?_
  have c1 := e_compF (ρ := [.sh (.tuple [encT [0], raysD L]), .sh (natD 1), .no, .no]) (g := g) (fi := itemsD (opD ixD (varD 0) (constD (.int 1)))) (own := [2]) (t := nameT 2) (c := orT (notT (truthD (callD 4 m_is_row (consD (varD 2) (consD (varD 1) (consD (constD (.int 0)) (consD (constD (.int 10000)) nilD))))))) (boolD (opD eqD (unD maxDD (varD 2)) (constD (.int 0))))) (e := varD 2) encT p encT L (e_items (i1 rfl)) (by omega) fun r hr => ⟨_, rfl, hp r hr _ rfl rfl, fun _ => e_var rfl⟩
  rcases h with h | ⟨h, r0, r1, rfl, hlt⟩
  · refine seq_rt (Eq.trans (if_yes (e_truth (e_share c1) ?_)) (s_ret e_const))
    cases hf : L.filter p with
    | nil => exact absurd hf h
    | cons x r => rfl
  · rw [h] at c1
    refine Eq.trans (seq_eq (s_skip (e_truth (e_share c1) rfl))) ?_
    have c2 := e_compF (ρ := [.sh (.tuple [encT [0], raysD [r0, r1]]), .sh (natD 1), .no, .no]) (g := g) (fi := range2D (constD (.int 1)) (unD lenD (opD ixD (varD 0) (constD (.int 1))))) (own := [3]) (t := nameT 3) (c := boolD (opD geDD (opD ixD (opD ixD (varD 0) (constD (.int 1))) (opD subD (varD 3) (constD (.int 1)))) (opD ixD (opD ixD (varD 0) (constD (.int 1))) (varD 3)))) (e := varD 3) (fun k => natD (k + 1)) (fun _ => true) (fun k => natD (k + 1)) (List.range 1) (e_up (n := 2) (e_un (i1 rfl) (len_rays [r0, r1])) (by decide)) (by decide) fun k hk => by
      have hk : k = 0 := by have := List.mem_range.mp hk; omega
      subst hk
      exact ⟨_, rfl, e_bool (e_op (e_op (i1 rfl) (e_op (e_var rfl) e_const (subI _ _)) (ix_rays (rs := [r0, r1]) (k := 0) rfl)) (e_op (i1 rfl) (e_var rfl) (ix_rays (rs := [r0, r1]) (k := 1) rfl)) (by rw [geD_T, decide_eq_false hlt]; rfl)), fun _ => e_var rfl⟩
    exact s_ret (e_op (e_share c2) (e_share (e_lst e_nil rfl)) (eq_empty fun x hx => by
      rw [List.mem_singleton.mp hx]
      exact ⟨rfl, by simp [PyData.depth]⟩))
theorem ray_p {r : Bg} (hr : r ≠ []) (hl : r.length ≤ 3) : ∃ q : Bool, (∀ ρ : Nv, ρ[2]? = some (.sh (encT r)) → ρ[1]? = some (.sh (natD 1)) → orT (notT (truthD (callD 4 m_is_row (consD (varD 2) (consD (varD 1) (consD (constD (.int 0)) (consD (constD (.int 10000)) nilD))))))) (boolD (opD eqD (unD maxDD (varD 2)) (constD (.int 0)))) ρ g = .ok q g) ∧ (q = true ↔ (rowB 1 0 10000 r = false ∨ ∃ m ∈ r, (∀ y ∈ r, y ≤ m) ∧ m = 0)) := by
  obtain ⟨m, m1, m2, _, m3⟩ := max_I hr
  refine ⟨!rowB 1 0 10000 r || decide (m = 0), fun ρ h2 h1 => e_or (e_not (e_truth (e_call (e_cons (e_var h2) (e_cons (e_var h1) (e_cons e_const (e_cons e_const e_nil)))) rfl (row_ok (by omega))) rfl)) fun _ => e_bool (e_op (e_un (e_var h2) m3) e_const (eqI _ _)), ?_⟩
  rw [Bool.or_eq_true, Bool.not_eq_true', decide_eq_true_eq]
  constructor
  · rintro (h | h)
    · exact .inl h
    · exact .inr ⟨m, m1, m2, h⟩
  · rintro (h | ⟨k, k1, k2, k3⟩)
    · exact .inl h
    · refine .inr ?_
      have a := m2 k k1
      have b := k2 m m1
      omega
theorem isb_ray {r : Bg} (hr : r ≠ []) (hl : r.length ≤ 3) (h : rowB 1 0 10000 r = false ∨ ∃ m ∈ r, (∀ y ∈ r, y ≤ m) ∧ m = 0) : m_is_bundle [.tuple [encT [0], raysD [r]]] g = .ok (.bool false) g := by
  obtain ⟨q, q1, q2⟩ := ray_p (g := g) hr hl
  have hq := q2.mpr h
  subst hq
  exact isb_4 (p := fun _ => true) (by simp) (fun x hx => by rw [List.mem_singleton.mp hx]; exact q1) (.inl (by simp))
theorem isb_two {x y : Int} (hx : 0 < x ∧ x ≤ 10000) (hy : 0 < y ∧ y ≤ 10000) (h : ¬ x < y) : m_is_bundle [.tuple [encT [0], raysD [[x], [y]]]] g = .ok (.bool false) g := by
  have key : ∀ z : Int, 0 < z ∧ z ≤ 10000 → ∀ ρ : Nv, ρ[2]? = some (.sh (encT [z])) → ρ[1]? = some (.sh (natD 1)) → orT (notT (truthD (callD 4 m_is_row (consD (varD 2) (consD (varD 1) (consD (constD (.int 0)) (consD (constD (.int 10000)) nilD))))))) (boolD (opD eqD (unD maxDD (varD 2)) (constD (.int 0)))) ρ g = .ok false g := fun z hz ρ h2 h1 => by
    obtain ⟨q, q1, q2⟩ := ray_p (g := g) (r := [z]) (by simp) (by simp)
    have : q = false := by
      cases q with
      | false => rfl
      | true =>
        exfalso
        rcases q2.mp rfl with w | ⟨m, m1, _, m3⟩
        · rw [rowB_of (b := [z]) (n := 1) (lo := 0) (hi := 10000) rfl (fun t ht => by rw [List.mem_singleton.mp ht]; omega)] at w
          cases w
        · rw [List.mem_singleton.mp m1] at m3
          omega
    subst this
    exact q1 ρ h2 h1
  refine isb_4 (p := fun _ => false) (by simp) (fun r hr ρ h2 h1 => ?_) (.inr ⟨by simp, [x], [y], rfl, ?_⟩)
  · simp only [List.mem_cons, List.not_mem_nil, or_false] at hr
    rcases hr with rfl | rfl
    · exact key x hx ρ h2 h1
    · exact key y hy ρ h2 h1
  · rw [List.cons_lt_cons_iff]
    rintro (w | ⟨_, w⟩)
    · exact h w
    · exact List.not_lt_nil _ w
abbrev wrongB : List PyData := [.none, .tuple [], .tuple [encT [0], raysD [[0]]], .tuple [encT [-1], .list []], .tuple [encT [0], raysD [[1], [1]]], .tuple [encT [0], raysD [[2], [1]]], .tuple [encT [0], .tuple [encT [1]]], .tuple [encT [0, 0, 0, 0], .list []]]
abbrev wrongB2 : List PyData := [.tuple [encT [0], raysD [[1, 0]]], .tuple [encT [1000001], .list []], .tuple [encT [0], raysD [[10001]]], .tuple [.tuple [.bool true], .list []]]
theorem isb_T {b : Bg} {y : PyData} (hl : b.length ≤ 1000) (h : ¬ (1 ≤ b.length ∧ b.length ≤ 3 ∧ rowB b.length 0 1000000 b = true)) : m_is_bundle [.tuple [encT b, y]] g = .ok (.bool false) g := by
  have r := row_ok (g := g) (b := b) (n := b.length) (lo := 0) (hi := 1000000) hl
  have e : (b.map PyData.int).length = b.length := List.length_map _
  refine isb_1 (ds := b.map PyData.int) (q := rowB b.length 0 1000000 b) ?_ (by rw [e]; exact h)
  rw [e]
  exact r
theorem row_bools (n : Nat) (hn : 1 ≤ n) (hn3 : n ≤ 10) {lo hi : Int} : m_is_row [.tuple (List.replicate n (.bool true)), natD n, .int lo, .int hi] g = .ok (.bool false) g := by
  unfold m_is_row
  refine f_rt ?_
  unfold b_is_row
  show seqS _ _ [.sh (.tuple (List.replicate n (.bool true))), .sh (natD n), .sh (.int lo), .sh (.int hi), .no] g = _
  have hlen : unD lenD (varD 0) [.sh (.tuple (List.replicate n (.bool true))), .sh (natD n), .sh (.int lo), .sh (.int hi), .no] g = .ok (natD n) g := by
    refine e_un (e_var rfl) ?_
    show some (PyData.int (((List.replicate n (PyData.bool true)).length : Nat) : Int)) = _
    rw [List.length_replicate]
  refine Eq.trans (seq_eq (s_skip (e_or (x := false) (y := false) (is_tup rfl) fun _ => e_bool (e_op hlen (e_var rfl) (by rw [neI, decide_eq_true rfl]; rfl))))) ?_
  have c := e_compF (ρ := [.sh (.tuple (List.replicate n (.bool true))), .sh (natD n), .sh (.int lo), .sh (.int hi), .no]) (g := g) (fi := itemsD (varD 0)) (own := [4]) (t := nameT 4) (c := notT (truthD (callD 3 m_is_between (consD (varD 4) (consD (varD 2) (consD (varD 3) nilD)))))) (e := varD 4) (fun b : Bool => PyData.bool b) (fun _ => true) (fun b : Bool => PyData.bool b) (List.replicate n true) (by rw [List.map_replicate]; exact e_itemsT (e_var rfl)) (by rw [List.length_replicate]; omega) fun x _ => ⟨_, rfl, e_not (b := false) (e_truth (e_call (e_cons (e_var rfl) (e_cons (e_var rfl) (e_cons (e_var rfl) e_nil))) rfl (between_bool x lo hi)) rfl), fun _ => e_var rfl⟩
  rw [List.filter_eq_self.mpr (fun _ _ => rfl)] at c
  refine s_ret (e_op (e_share c) (e_share (e_lst e_nil rfl)) ?_)
  rw [eq_empty fun x hx => by
    obtain ⟨z, _, rfl⟩ := List.mem_map.mp hx
    exact ⟨rfl, by simp [PyData.depth]⟩]
  cases n with
  | zero => omega
  | succ n => rfl
theorem isb_bad : ∀ w ∈ wrongB ++ wrongB2, m_is_bundle [w] g = .ok (.bool false) g := by
  intro w hw
  simp only [wrongB, wrongB2, List.cons_append, List.nil_append, List.mem_cons, List.not_mem_nil, or_false] at hw
  rcases hw with rfl | rfl | rfl | rfl | rfl | rfl | rfl | rfl | rfl | rfl | rfl | rfl
  · exact isb_0 (fun _ _ z => by cases z) (.inl rfl)
  · exact isb_0 (fun _ _ z => by cases z) (.inr rfl)
  · exact isb_ray (by simp) (by decide) (.inr ⟨0, by simp, by simp, rfl⟩)
  · exact isb_T (b := [-1]) (by decide) (by decide)
  · exact isb_two (by omega) (by omega) (by omega)
  · exact isb_two (by omega) (by omega) (by omega)
  · exact isb_3
  · exact isb_T (b := [0, 0, 0, 0]) (by decide) (by decide)
  · exact isb_ray (by simp) (by decide) (.inl (by decide))
  · exact isb_T (b := [1000001]) (by decide) (by decide)
  · exact isb_ray (by simp) (by decide) (.inl (by decide))
  · exact isb_1 (ds := [.bool true]) (q := false) (row_bools 1 (by decide) (by decide)) (fun z => by cases z.2.2)
theorem refused_fan {w : PyData} (hw : m_is_bundle [w] g = .ok (.bool false) g) (u : PyData) : m_law_refused [w, u] g = .ok (strD "fan") g := by
  have h1 : m_check_bundle [w] g = .ex 1 g := by
    unfold m_check_bundle
    refine fn_ex (k := 0) (ρ1 := [.sh w]) ?_
    unfold b_check_bundle
    exact Eq.trans (if_yes (e_not (b := false) (e_truth (e_call (e_cons (e_var rfl) e_nil) rfl hw) rfl))) rfl
  have h2 : m_counts_for [w, u] g = .ex 1 g := by
    unfold m_counts_for
    refine fn_ex (k := 0) (ρ1 := [.sh w, .sh u]) ?_
    unfold b_counts_for
    exact seq_ex (drop_ex (call_ex (n := 1) (cons2 (vv rfl) (es := nilD) (ds := []) rfl) rfl h1))
  unfold m_law_refused
  refine fn_rt (n := 0) ?_
  unfold b_law_refused
  show tryM _ _ _ [.sh w, .sh u] g = _
  unfold tryM
  rw [seq_ex (drop_ex (call_ex (n := 2) (cons2 (vv rfl) (cons2 (vv rfl) (es := nilD) (ds := []) rfl)) rfl h2))]
  rfl
theorem refused_arg {b : Bd} (B : Bv d b) {u : PyData} (hu : m_is_row [u, natD d, .int 0, .int 40] g = .ok (.bool false) g) : m_law_refused [encBd b, u] g = .ok (strD "argument") g := by
  have pl := places_ok (g := g) b
  rw [B.bu.len] at pl
  have h1 : m_check_vector [u, natD d] g = .ex 0 g := by
    unfold m_check_vector
    refine fn_ex (k := 0) (ρ1 := [.sh u, .sh (natD d)]) ?_
    unfold b_check_vector
    exact Eq.trans (if_yes (e_not (b := false) (e_truth (e_call (e_cons (e_var rfl) (e_cons (e_var rfl) (e_cons e_const (e_cons e_const e_nil)))) rfl hu) rfl))) rfl
  have h2 : m_counts_for [encBd b, u] g = .ex 0 g := by
    unfold m_counts_for
    refine fn_ex (k := 0) (ρ1 := [.sh (encBd b), .sh u]) ?_
    unfold b_counts_for
    refine s_drop (e_call (e_cons (e_var rfl) e_nil) rfl (checkBundle_ok B)) ?_
    exact seq_ex (drop_ex (call_ex (n := 2) (cons2 (vv rfl) (cons2 (e_call (e_cons (e_var rfl) e_nil) rfl pl) (es := nilD) (ds := []) rfl)) rfl h1))
  unfold m_law_refused
  refine fn_rt (n := 0) ?_
  unfold b_law_refused
  show tryM _ _ _ [.sh (encBd b), .sh u] g = _
  unfold tryM
  rw [seq_ex (drop_ex (call_ex (n := 2) (cons2 (vv rfl) (cons2 (vv rfl) (es := nilD) (ds := []) rfl)) rfl h2))]
  rfl
end
end K

set_option Elab.async false
set_option linter.all false
set_option maxRecDepth 100000
set_option maxHeartbeats 400000
namespace K
open PySem DL PyProof.Rows
section
/-! ### the law -/
variable {ms : List Int} {g : DL.G} {d : Nat} {v b : Bg} {L : List Bg} {bs : List Bd}
noncomputable abbrev turnW : Sm := (seqS (setS 7 (unD tupleD (shareO (lcO (rangeD (varD 2)) [9] (nameT 9) yesT (opD modD (callG 1 1 m_law_draw nilD) (opD ixD (shareO (lstO (consD (constD (.int 9)) (consD (constD (.int 41)) nilD)))) (ifD (boolD (opD (cmpD fun i j => decide (i < j)) (varD 2) (constD (.int 3)))) (opD modD (varD 4) (constD (.int 2))) (constD (.int 0)))))))))
  (seqS (ifS (boolD (opD (cmpD fun i j => decide (j < i)) (varD 4) (constD (.int 2))))
  (seqS (asgS (opD ixD (varD 3) (opD modD (callG 1 1 m_law_draw nilD) (unD lenD (varD 3)))) (tupT (consT (nameT 15) (consT (nameT 16) nilT))))
  (seqS (setS 7 (varD 15))
  (forS (itemsD (varD 16)) (nameT 13)
  (seqS (setS 17 (opD modD (callG 1 1 m_law_draw nilD) (constD (.int 3))))
  (setS 7 (unD tupleD (shareO (lcO (rangeD (varD 2)) [9] (nameT 9) yesT (opD addD (opD ixD (varD 7) (varD 9)) (opD mulD (varD 17) (opD ixD (varD 13) (varD 9))))))))))))
  nextS)
  (seqS (setS 8 (shareO (lcO (itemsD (varD 3)) [15, 16] (tupT (consT (nameT 15) (consT (nameT 16) nilT))) yesT (callD 3 m_law_counts (consD (varD 15) (consD (varD 16) (consD (varD 7) nilD)))))))
  (seqS (forS (rangeD (unD lenD (varD 3))) (nameT 9)
  (ifS (notT (truthD (callD 2 m_law_equal (consD (callD 2 m_counts_for (consD (opD ixD (varD 3) (varD 9)) (consD (varD 7) nilD))) (consD (opD ixD (varD 8) (varD 9)) nilD)))))
  (retS (constD (.bool false)))
  nextS))
  (seqS (setOS 10 (lcO (rangeD (unD lenD (varD 3))) [9] (nameT 9) (boolD (unD notNoneD (opD ixD (varD 8) (varD 9)))) (varD 9))) (shutS 10 (seqS (ifS (orT (notT (truthD (callD 2 m_law_equal (consD (callD 2 m_has_vector (consD (varD 3) (consD (varD 7) nilD))) (consD (opD (cmpD fun i j => decide (j < i)) (unD lenD (varD 10)) (constD (.int 0))) nilD))))) (notT (truthD (callD 2 m_law_equal (consD (callD 2 m_way_in (consD (varD 3) (consD (varD 7) nilD))) (consD (ifD (boolD (opD (cmpD fun i j => decide (j < i)) (unD lenD (varD 10)) (constD (.int 0)))) (tupD (consD (opD ixD (varD 10) (constD (.int 0))) (consD (opD ixD (varD 8) (opD ixD (varD 10) (constD (.int 0)))) nilD))) (constD .none)) nilD))))))
  (retS (constD (.bool false)))
  nextS)
  (seqS (setOS 11 (lstO (consD (constD .none) (consD (tupD (consD (constD (.int 0)) nilD)) (consD (tupD (consD (unD lenD (varD 3)) (consD (tupD nilD) nilD))) (consD (tupD (consD (constD (.int 0)) (consD (constD .none) nilD))) (consD (tupD (consD (unD negD (constD (.int 1))) (consD (tupD nilD) nilD))) (consD (tupD (consD (constD (.bool true)) (consD (tupD nilD) nilD))) (consD (tupD (consD (constD (.int 0)) (consD (opD mulD (shareO (lstO (consD (constD (.int 0)) nilD))) (unD lenD (opD ixD (opD ixD (varD 3) (constD (.int 0))) (constD (.int 1))))) nilD))) (consD (tupD (consD (constD (.int 0)) (consD (opD mulD (tupD (consD (constD (.int 0)) nilD)) (opD addD (unD lenD (opD ixD (opD ixD (varD 3) (constD (.int 0))) (constD (.int 1)))) (constD (.int 1)))) nilD))) nilD))))))))))
  (seqS (forS (itemsD (varD 10)) (nameT 9)
  (seqS (appS 11 (tupD (consD (varD 9) (consD (opD ixD (varD 8) (varD 9)) nilD))))
  (seqS (appS 11 (shareO (lstO (consD (varD 9) (consD (opD ixD (varD 8) (varD 9)) nilD)))))
  (forS (rangeD (unD lenD (opD ixD (varD 8) (varD 9)))) (nameT 14)
  (seqS (appS 11 (tupD (consD (varD 9) (consD (opD addD (opD addD (slD (opD ixD (varD 8) (varD 9)) noPart (somePart (varD 14))) (tupD (consD (opD addD (opD ixD (opD ixD (varD 8) (varD 9)) (varD 14)) (constD (.int 1))) nilD))) (slD (opD ixD (varD 8) (varD 9)) (somePart (opD addD (varD 14) (constD (.int 1)))) noPart)) nilD))))
  (appS 11 (tupD (consD (varD 9) (consD (opD addD (opD addD (slD (opD ixD (varD 8) (varD 9)) noPart (somePart (varD 14))) (tupD (consD (opD subD (opD ixD (opD ixD (varD 8) (varD 9)) (varD 14)) (constD (.int 1))) nilD))) (slD (opD ixD (varD 8) (varD 9)) (somePart (opD addD (varD 14) (constD (.int 1)))) noPart)) nilD)))))))))
  (shutS 11 (forS (itemsD (varD 11)) (nameT 12)
  (ifS (notT (truthD (callD 2 m_law_equal (consD (callD 3 m_is_way_in (consD (varD 3) (consD (varD 7) (consD (varD 12) nilD)))) (consD (callD 3 m_law_right (consD (varD 3) (consD (varD 7) (consD (varD 12) nilD)))) nilD)))))
  (retS (constD (.bool false)))
  nextS))))))))))))
theorem turn_ok (hg : Dr ms g) (G : Gb d bs) (t : Nat) (ht : t < 6) (x7 x8 x9 x10 x11 x12 x13 x14 x15 x16 x17 : Sl) : ∃ g' y7 y8 y9 y10 y11 y12 y13 y14 y15 y16 y17, Dr ms g' ∧ turnW (TS d bs (.sh (natD t)) x7 x8 x9 x10 x11 x12 x13 x14 x15 x16 x17) g = .nx (TS d bs (.sh (natD t)) y7 y8 y9 y10 y11 y12 y13 y14 y15 y16 y17) g' := by
  obtain ⟨v0, g1, hv0, hg1, h1⟩ := vec_drawn hg G t x7 x8 x9 x10 x11 x12 x13 x14 x15 x16 x17
  have h2 : ∃ v g2 y13 y15 y16 y17, Bx d v ∧ Dr ms g2 ∧ (ifS (boolD (opD (cmpD fun i j => decide (j < i)) (varD 4) (constD (.int 2)))) (seqS (asgS (opD ixD (varD 3) (opD modD (callG 1 1 m_law_draw nilD) (unD lenD (varD 3)))) (tupT (consT (nameT 15) (consT (nameT 16) nilT)))) (seqS (setS 7 (varD 15)) (forS (itemsD (varD 16)) (nameT 13) (seqS (setS 17 (opD modD (callG 1 1 m_law_draw nilD) (constD (.int 3)))) (setS 7 (unD tupleD (shareO (lcO (rangeD (varD 2)) [9] (nameT 9) yesT (opD addD (opD ixD (varD 7) (varD 9)) (opD mulD (varD 17) (opD ixD (varD 13) (varD 9)))))))))))) nextS) (TS d bs (.sh (natD t)) (.sh (encT v0)) x8 x9 x10 x11 x12 x13 x14 x15 x16 x17) g1 = .nx (TS d bs (.sh (natD t)) (.sh (encT v)) x8 x9 x10 x11 x12 y13 x14 y15 y16 y17) g2 := by
    have hc : boolD (opD (cmpD fun i j => decide (j < i)) (varD 4) (constD (.int 2))) (TS d bs (.sh (natD t)) (.sh (encT v0)) x8 x9 x10 x11 x12 x13 x14 x15 x16 x17) g1 = .ok (decide ((2 : Int) < (t : Int))) g1 := e_bool (e_op (e_var rfl) e_const (gtI _ _))
    cases hq : decide ((2 : Int) < (t : Int)) with
    | false =>
      rw [hq] at hc
      exact ⟨v0, g1, _, _, _, _, hv0, hg1, s_skip hc⟩
    | true =>
      rw [hq] at hc
      obtain ⟨v, g2, y13, y15, y16, y17, k1, k2, k3⟩ := vec_had hg1 G (.sh (natD t)) (.sh (encT v0)) x8 x9 x10 x11 x12 x13 x14 x15 x16 x17
      exact ⟨v, g2, y13, y15, y16, y17, k1, k2, Eq.trans (if_yes hc) k3⟩
  obtain ⟨v, g2, y13, y15, y16, y17, hv, hg2, h2⟩ := h2
  have h3 := told_list (g := g2) G hv (.sh (natD t)) x8 x9 x10 x11 x12 y13 x14 y15 y16 y17
  obtain ⟨z9, h4⟩ := counts_loop (g := g2) G hv (.sh (natD t)) x9 x10 x11 x12 y13 x14 y15 y16 y17
  have h5 := good_list (g := g2) (v := v) G (.sh (natD t)) (.sh (encT v)) z9 x10 x11 x12 y13 x14 y15 y16 y17
  have h6 := asked (g := g2) G hv (.sh (natD t)) z9 x11 x12 y13 x14 y15 y16 y17
  obtain ⟨T, hT, hTl, h7⟩ := tried0 (g := g2) G hv (.sh (natD t)) z9 x11 x12 y13 x14 y15 y16 y17
  obtain ⟨T', y9, y14, hT', hTl', h8⟩ := tried_all (g := g2) G hv hT hTl (.sh (natD t)) z9 x12 y13 x14 y15 y16 y17
  obtain ⟨y12, h9⟩ := judged_loop (g := g2) (v := v) (bs := bs) (d := d) hT' (x4 := .sh (natD t)) (x9 := y9) (x12 := x12) (x13 := y13) (x14 := y14) (x15 := y15) (x16 := y16) (x17 := y17) hTl'
  refine ⟨g2, .sh (encT v), .sh (toldD bs v), y9, .sh (.list ((goodL bs v).map natD)), .sh (.list T'), y12, y13, y14, y15, y16, y17, hg2, ?_⟩
  refine Eq.trans (seq_eq (set_ok h1)) ?_
  refine Eq.trans (seq_eq h2) ?_
  refine Eq.trans (seq_eq (set_ok h3)) ?_
  refine Eq.trans (seq_eq h4) ?_
  refine s_setO h5 (s_shut rfl ?_)
  refine Eq.trans (seq_eq (s_skip h6)) ?_
  refine s_setO h7 ?_
  refine Eq.trans (seq_eq h8) ?_
  exact s_shut rfl h9
theorem bundles_drawn (hg : Dr ms g) (d1 : 1 ≤ d) (d3 : d ≤ 3) : ∃ bs g', Gb d bs ∧ Dr ms g' ∧ (setOS 3 (lcO (rangeD (opD addD (constD (.int 1)) (opD modD (callG 1 1 m_law_draw nilD) (constD (.int 3))))) [9] (nameT 9) yesT (callG 4 1 m_law_bundle (consD (varD 2) (consD (constD (.int 3)) (consD (constD (.int 5)) nilD)))))) [.no, .dr, .sh (natD d), .no, .no, .no, .no, .no, .no, .no, .no, .no, .no, .no, .no, .no, .no, .no] g = .nx [.no, .dr, .sh (natD d), .ow (.lst (bs.map encBd)), .no, .no, .no, .no, .no, .no, .no, .no, .no, .no, .no, .no, .no, .no] g' := by
  obtain ⟨n, g1, hn, hg1, h1⟩ := drawE hg (i := 1) (m := 3) (ρ := [.no, .dr, .sh (natD d), .no, .no, .no, .no, .no, .no, .no, .no, .no, .no, .no, .no, .no, .no, .no]) rfl (e := constD (.int 3)) (by decide) (fun _ => rfl)
  have h2 : opD addD (constD (.int 1)) (opD modD (callG 1 1 m_law_draw nilD) (constD (.int 3))) [.no, .dr, .sh (natD d), .no, .no, .no, .no, .no, .no, .no, .no, .no, .no, .no, .no, .no, .no, .no] g = .ok (.int ((n + 1 : Nat) : Int)) g1 := by
    refine op2 e_const h1 ?_
    rw [addI]
    congr 2
    omega
  obtain ⟨ys, g2, h3, hg2, bs, rfl, hl, hb⟩ := compD_all (t := nameT 9) (cond := yesT) (elt := callG 4 1 m_law_bundle (consD (varD 2) (consD (constD (.int 3)) (consD (constD (.int 5)) nilD)))) natD (fun pre ys g => Dr ms g ∧ ∃ bs : List Bd, ys = bs.map encBd ∧ bs.length = pre.length ∧ ∀ b ∈ bs, Bs5 d b) (List.range (n + 1)) (wipeD [.no, .dr, .sh (natD d), .no, .no, .no, .no, .no, .no, .no, .no, .no, .no, .no, .no, .no, .no, .no] [9]) (by
    rintro pre k post e ys g ⟨hd, bs, rfl, hl, hb⟩
    obtain ⟨b, g', b5, hg', h⟩ := lawBundle_ok hd d1 d3
    refine ⟨_, g, rfl, .inr ⟨rfl, encBd b, g', e_callG rfl (e_cons (e_var rfl) (e_cons e_const (e_cons e_const e_nil))) rfl h, hg', bs ++ [b], by rw [List.map_append]; rfl, by rw [List.length_append, List.length_append, hl]; rfl, fun x hx => ?_⟩⟩
    rcases List.mem_append.mp hx with w | w
    · exact hb x w
    · rw [List.mem_singleton.mp w]; exact b5) (g := g1) ⟨hg1, [], rfl, rfl, fun _ h => nomatch h⟩
  rw [List.length_range] at hl
  refine ⟨bs, g2, ⟨hb, by omega, by omega, d1, d3⟩, hg2, setO_ok (lc_ok (ds := (List.range (n + 1)).map natD) ?_ (by rw [List.length_map, List.length_range]; omega) h3)⟩
  rw [range_ok h2 (by omega)]
  congr 1
  refine List.map_congr_left fun k _ => ?_
  show PyData.int (0 + (k : Int)) = .int (k : Int)
  congr 1
  omega
theorem law_runs (ms : List Int) (hs : Small ms) : ∃ g', b_law (.no :: .dr :: List.replicate 16 .no) (some (.dr ms 0)) = .rt (.bool true) g' := by
  have hg : Dr ms (some (.dr ms 0)) := ⟨0, Int.le_refl _, rfl⟩
  generalize (some (GS.dr ms 0) : DL.G) = g at hg
  show ∃ g', b_law [.no, .dr, .no, .no, .no, .no, .no, .no, .no, .no, .no, .no, .no, .no, .no, .no, .no, .no] g = _
  unfold b_law
  obtain ⟨n, g1, hn, hg1, h1⟩ := drawE hg (i := 1) (m := 3) (ρ := [.no, .dr, .no, .no, .no, .no, .no, .no, .no, .no, .no, .no, .no, .no, .no, .no, .no, .no]) rfl (e := constD (.int 3)) (by decide) (fun _ => rfl)
  have h2 : opD addD (constD (.int 1)) (opD modD (callG 1 1 m_law_draw nilD) (constD (.int 3))) [.no, .dr, .no, .no, .no, .no, .no, .no, .no, .no, .no, .no, .no, .no, .no, .no, .no, .no] g = .ok (natD (n + 1)) g1 := by
    refine op2 e_const h1 ?_
    rw [addI]
    congr 2
    omega
  obtain ⟨bs, g2, G, hg2, h3⟩ := bundles_drawn hg1 (d := n + 1) (by omega) (by omega)
  obtain ⟨ρ', g3, hf, hg3, x4, x7, x8, x9, x10, x11, x12, x13, x14, x15, x16, x17, rfl⟩ := forD_all (t := nameT 4) (body := turnW) natD (fun pre ρ g => Dr ms g ∧ ∃ x4 x7 x8 x9 x10 x11 x12 x13 x14 x15 x16 x17, ρ = TS (n + 1) bs x4 x7 x8 x9 x10 x11 x12 x13 x14 x15 x16 x17) (List.range 6)
    (by
      rintro pre k post e ρ g ⟨hg, x4, x7, x8, x9, x10, x11, x12, x13, x14, x15, x16, x17, rfl⟩
      have hk : k < 6 := List.mem_range.mp (by rw [e]; simp)
      obtain ⟨g', y7, y8, y9, y10, y11, y12, y13, y14, y15, y16, y17, k1, k2⟩ := turn_ok hg G k hk x7 x8 x9 x10 x11 x12 x13 x14 x15 x16 x17
      exact ⟨_, _, g', rfl, .inl k2, k1, _, _, _, _, _, _, _, _, _, _, _, _, rfl⟩)
    (ρ := TS (n + 1) bs .no .no .no .no .no .no .no .no .no .no .no .no) (g := g2) ⟨hg2, _, _, _, _, _, _, _, _, _, _, _, _, rfl⟩
  refine ⟨g3, ?_⟩
  refine Eq.trans (seq_eq (set_ok h2)) ?_
  refine Eq.trans (seq_eq h3) ?_
  refine s_shut rfl ?_
  refine Eq.trans (seq_eq (for_run (e_rangeN (n := 6) e_const (by decide)) hf)) ?_
  have d1 := G.d1
  have d3 := G.d3
  have l1 := G.l1
  have pw : powD (.int 10) (.int 6) = some (.int 1000000) := by rfl
  have pw4 : powD (.int 10) (.int 4) = some (.int 10000) := by rfl
  have m4 := mul_tup (.int 0) 4 (by decide) (by decide)
  refine s_set (d := .list wrongB) ((e_share (e_lst (e_cons e_const (e_cons (e_tup e_nil rfl) (e_cons (e_tup (e_cons (e_tup (e_cons e_const e_nil) rfl) (e_cons (e_share (e_lst (e_cons (e_tup (e_cons e_const e_nil) rfl) e_nil) rfl)) e_nil)) rfl) (e_cons (e_tup (e_cons (e_tup (e_cons (e_un e_const rfl) e_nil) rfl) (e_cons (e_share (e_lst e_nil rfl)) e_nil)) rfl) (e_cons (e_tup (e_cons (e_tup (e_cons e_const e_nil) rfl) (e_cons (e_share (e_lst (e_cons (e_tup (e_cons e_const e_nil) rfl) (e_cons (e_tup (e_cons e_const e_nil) rfl) e_nil)) rfl)) e_nil)) rfl) (e_cons (e_tup (e_cons (e_tup (e_cons e_const e_nil) rfl) (e_cons (e_share (e_lst (e_cons (e_tup (e_cons e_const e_nil) rfl) (e_cons (e_tup (e_cons e_const e_nil) rfl) e_nil)) rfl)) e_nil)) rfl) (e_cons (e_tup (e_cons (e_tup (e_cons e_const e_nil) rfl) (e_cons (e_tup (e_cons (e_tup (e_cons e_const e_nil) rfl) e_nil) rfl) e_nil)) rfl) (e_cons (e_tup (e_cons (e_op (e_tup (e_cons e_const e_nil) rfl) e_const m4) (e_cons (e_share (e_lst e_nil rfl)) e_nil)) rfl) e_nil)))))))) rfl))) ?_
  obtain ⟨z6, hl1⟩ := look_loop (g := g3) (fun x : PyData => x) (wrongB ++ wrongB2) (i := 6) (c := boolD (opD neD (callD 2 m_law_refused (consD (varD 6) (consD (tupD (consD (constD (.int 0)) nilD)) nilD))) (constD (.str (PySem.Str.ofString "fan"))))) (ρ := (TS (n + 1) bs x4 x7 x8 x9 x10 x11 x12 x13 x14 x15 x16 x17).set 5 (.sh (.list wrongB))) (Nat.lt_of_sub_pos (by exact Nat.zero_lt_succ 11)) fun w hw z =>
    e_bool (e_op (e_call (e_cons (e_var rfl) (e_cons (e_tup (e_cons e_const e_nil) rfl) e_nil)) rfl (refused_fan (isb_bad w hw) _)) e_const (by simp [neD, eqD]))
  rw [List.map_id'] at hl1
  refine Eq.trans (seq_eq (s_for (e_items ((e_op (e_var rfl) (e_share (e_lst (e_cons (e_tup (e_cons (e_tup (e_cons e_const e_nil) rfl) (e_cons (e_share (e_lst (e_cons (e_tup (e_cons e_const (e_cons e_const e_nil)) rfl) e_nil) rfl)) e_nil)) rfl) (e_cons (e_tup (e_cons (e_tup (e_cons (e_op (e_op e_const e_const pw) e_const (addI _ _)) e_nil) rfl) (e_cons (e_share (e_lst e_nil rfl)) e_nil)) rfl) (e_cons (e_tup (e_cons (e_tup (e_cons e_const e_nil) rfl) (e_cons (e_share (e_lst (e_cons (e_tup (e_cons (e_op (e_op e_const e_const pw4) e_const (addI _ _)) e_nil) rfl) e_nil) rfl)) e_nil)) rfl) (e_cons (e_tup (e_cons (e_tup (e_cons e_const e_nil) rfl) (e_cons (e_share (e_lst e_nil rfl)) e_nil)) rfl) e_nil)))) rfl)) (addL wrongB wrongB2 (by decide))))) hl1)) ?_
  have b0 : bs[0]? = some bs[0] := List.getElem?_eq_getElem l1
  have B0 := (G.b5 _ (List.getElem_mem l1)).bv
  have wrongV : ∀ u ∈ ([.none, encT (List.replicate (n + 1 + 1) 0), encT (List.replicate (n + 1) 41), encT (List.replicate (n + 1) (-1)), .list (List.replicate (n + 1) (.int 0)), .tuple (List.replicate (n + 1) (.bool true))] : List PyData), m_is_row [u, natD (n + 1), .int 0, .int 40] g3 = .ok (.bool false) g3 := fun u hu => by
    have rb : ∀ b : Bg, b.length ≤ 1000 → rowB (n + 1) 0 40 b = false → m_is_row [encT b, natD (n + 1), .int 0, .int 40] g3 = .ok (.bool false) g3 := fun b hb h => by
      have := row_ok (g := g3) (b := b) (n := n + 1) (lo := 0) (hi := 40) hb
      rw [h] at this
      exact this
    simp only [List.mem_cons, List.not_mem_nil, or_false] at hu
    rcases hu with rfl | rfl | rfl | rfl | rfl | rfl
    · exact row_no rfl
    · refine rb _ (by rw [List.length_replicate]; omega) ?_
      unfold rowB
      rw [List.length_replicate, decide_eq_false (by omega)]
      rfl
    · refine rb _ (by rw [List.length_replicate]; omega) ?_
      unfold rowB
      rw [List.replicate_succ, List.all_cons]
      simp
    · refine rb _ (by rw [List.length_replicate]; omega) ?_
      unfold rowB
      rw [List.replicate_succ, List.all_cons]
      simp
    · exact row_no rfl
    · exact row_bools (n + 1) (by omega) (by omega)
  obtain ⟨z6', hl2⟩ := look_loop (g := g3) (fun x : PyData => x) ([.none, encT (List.replicate (n + 1 + 1) 0), encT (List.replicate (n + 1) 41), encT (List.replicate (n + 1) (-1)), .list (List.replicate (n + 1) (.int 0)), .tuple (List.replicate (n + 1) (.bool true))] : List PyData) (i := 6) (c := boolD (opD neD (callD 2 m_law_refused (consD (opD ixD (varD 3) (constD (.int 0))) (consD (varD 6) nilD))) (constD (.str (PySem.Str.ofString "argument"))))) (ρ := ((TS (n + 1) bs x4 x7 x8 x9 x10 x11 x12 x13 x14 x15 x16 x17).set 5 (.sh (.list wrongB))).set 6 z6) (Nat.lt_of_sub_pos (by exact Nat.zero_lt_succ 11)) fun w hw z =>
    e_bool (e_op (e_call (e_cons (e_op (e_var rfl) e_const (ix_bundles (k := 0) b0)) (e_cons (e_var rfl) e_nil)) rfl (refused_arg B0 (wrongV w hw))) e_const (by simp [neD, eqD]))
  rw [List.map_id'] at hl2
  have mt : ∀ (x : Int) (k : Nat), 1 ≤ k → k ≤ 10 → mulD (.tuple [.int x]) (.int (k : Int)) = some (encT (List.replicate k x)) := fun x k h1 h2 => by
    rw [mul_tup _ k h1 (by omega)]
    unfold encT
    rw [List.map_replicate]
  refine Eq.trans (seq_eq (s_for (e_itemsT (e_tup (e_cons e_const (e_cons (e_op (e_tup (e_cons e_const e_nil) rfl) (e_op (e_var rfl) e_const (addI _ _)) (mt 0 (n + 1 + 1) (by omega) (by omega))) (e_cons (e_op (e_tup (e_cons e_const e_nil) rfl) (e_var rfl) (mt 41 (n + 1) (by omega) (by omega))) (e_cons (e_op (e_tup (e_cons (e_un e_const rfl) e_nil) rfl) (e_var rfl) (mt (-1) (n + 1) (by omega) (by omega))) (e_cons (e_op (e_share (e_lst (e_cons e_const e_nil) rfl)) (e_var rfl) (mul_list (.int 0) (n + 1) (by omega))) (e_cons (e_op (e_tup (e_cons e_const e_nil) rfl) (e_var rfl) (mul_tup (.bool true) (n + 1) (by omega) (by omega))) e_nil)))))) rfl)) hl2)) ?_
  refine s_ret (e_andV (x := true) (y := true) (e_call (e_cons (e_call (e_cons (e_share (e_lst e_nil rfl)) (e_cons (e_tup (e_cons e_const (e_cons e_const e_nil)) rfl) e_nil)) rfl (hasVector_ok (g := g3) (d := 2) (bs := []) (v := [3, 4]) (fun _ h => nomatch h) (by decide) ⟨rfl, by decide⟩ (by decide) (by decide))) (e_cons e_const e_nil)) rfl (equal_refl g3 trivial)) fun _ => e_call (e_cons (e_call (e_cons (e_share (e_lst e_nil rfl)) (e_cons (e_tup (e_cons e_const e_nil) rfl) e_nil)) rfl (wayIn_ok (g := g3) (d := 1) (bs := []) (v := [0]) (fun _ h => nomatch h) (by decide) ⟨rfl, by decide⟩ (by decide) (by decide))) (e_cons e_const e_nil)) rfl (equal_refl g3 trivial))
end
end K

set_option Elab.async false
set_option linter.all false
set_option maxRecDepth 100000
set_option maxHeartbeats 1000000
namespace K
open PySem PySem.Spec PyProof.Rows L2 DL
section
theorem exm_of {K : PySem.W.Frag} {S T : Addr} {b : Bool} (h1 : PySem.W.subIn K (.ref T) (.type "BaseException") = some true) (h2 : PySem.W.isClsIn K T = true) (h3 : PySem.W.typeIn K (.ref T) = some (.type "type")) (h4 : PySem.W.subIn K (.ref S) (.ref T) = some b) :
    PySem.W.exmOne K (.ref S) (.ref T) = some b := by
  have e1 : (PySem.W.subIn K (.ref T) (.type "BaseException") == some true) = true := by rw [h1] <;> rfl
  have e2 : ((PySem.W.clsIn K T).isSome && PySem.W.typeIn K (.ref T) == some (.type "type")) = true := by
    have h2' : (PySem.W.clsIn K T).isSome = true := h2
    rw [h2', h3] <;> rfl
  show (if (PySem.W.subIn K (.ref T) (.type "BaseException") == some true) = true then (if ((PySem.W.clsIn K T).isSome && PySem.W.typeIn K (.ref T) == some (.type "type")) = true then PySem.W.subIn K (.ref S) (.ref T) else none) else none) = some b
  rw [if_pos e1, if_pos e2]
  exact h4
theorem cx_no {P : Program} {w : World} {H : Hp} {s s2 : Shared} {v : Value} (h : L2.CX P w [] H s (fun _ _ _ => False) v s2) : False := by
  obtain ⟨_, _, _, _, _, _, _, _, _, _, _, _, h⟩ := h
  exact h
set_option maxHeartbeats 4000000 in
theorem all_mk {l : PySem.W.OpenLaw} {w : World} {K : PySem.W.Frag} {h : Heap} {mg : Str → Option Value} (X : K.In h) (G : h.Ns mainGlobals mg) {fa C0 C1 DCounting f0 f1 f2 f3 f4 f5 f6 f7 f8 f9 f10 f11 f12 f13 f14 f15 f16 f17 f18 f19 f20 f21 f22 f23 f24 f25 f26 : Addr} {od0 od1 od2 od3 od4 od5 od6 od7 od8 od9 od10 od11 od12 od13 od14 od15 od16 od17 od18 od19 od20 od21 od22 od23 od24 od25 od26 an0 an1 an2 an3 an4 an5 an6 an7 an8 an9 an10 an11 an12 an13 an14 an15 an16 an17 an18 an19 an20 an21 an22 an23 an24 an25 an26 : Option Addr} {sl0 sl1 sl2 sl3 sl4 sl5 sl6 sl7 sl8 sl9 sl10 sl11 sl12 sl13 sl14 sl15 sl16 sl17 sl18 sl19 sl20 sl21 sl22 sl23 sl24 sl25 sl26 : Array (Option Value)} {oc0 oc1 oc2 oc3 oc4 oc5 oc6 oc7 oc8 oc9 oc10 oc11 oc12 oc13 oc14 oc15 oc16 oc17 oc18 oc19 oc20 oc21 oc22 oc23 oc24 oc25 oc26 kV0 kV1 kV2 kV3 kV4 kV5 kV6 kV7 kV8 kV9 kV10 kV11 kV12 kV13 kV14 kV15 kV16 kV17 kV18 kV19 kV20 kV21 kV22 kV23 kV24 kV25 kV26 dc0 dc1 dc2 dc3 dc4 dc5 dc6 dc7 dc8 dc9 dc10 dc11 dc12 dc13 dc14 dc15 dc16 dc17 dc18 dc19 dc20 dc21 dc22 dc23 dc24 dc25 dc26 pm0 pm1 pm2 pm3 pm4 pm5 pm6 pm7 pm8 pm9 pm10 pm11 pm12 pm13 pm14 pm15 pm16 pm17 pm18 pm19 pm20 pm21 pm22 pm23 pm24 pm25 pm26 cd0 cd1 cd2 cd3 cd4 cd5 cd6 cd7 cd8 cd9 cd10 cd11 cd12 cd13 cd14 cd15 cd16 cd17 cd18 cd19 cd20 cd21 cd22 cd23 cd24 cd25 cd26 ct0 ct1 ct2 ct3 ct4 ct5 ct6 ct7 ct8 ct9 ct10 ct11 ct12 ct13 ct14 ct15 ct16 ct17 ct18 ct19 ct20 ct21 ct22 ct23 ct24 ct25 ct26 : Value} {t_MOST_BASE t_MOST_BUNDLES t_MOST_PLACES t_MOST_RAY t_MOST_RAYS t_MOST_VECTOR : _} (hfa : mg "law" = some (.ref fa))
    (aDCounting : PySem.W.nsIn K mainGlobals "Counting" = some (some (.ref DCounting))) (pgCounting : PySem.W.plainGet K DCounting Str.empty = true) (hdCounting : PySem.W.hasDictIn K DCounting = true) (poCounting : PySem.W.plainOver K DCounting = true) (saCounting : PySem.W.findIn K (.ref DCounting) "__setattr__" = some (some (.builtin "object.__setattr__"))) (mkCounting : PySem.W.makesIn K DCounting = true) (kDCounting : PySem.W.keepIn K (.ref DCounting) = true)
    (naCounting_rays_told : PySem.W.findIn K (.ref DCounting) "rays_told" = some none)
    (naCounting_barred : PySem.W.findIn K (.ref DCounting) "barred" = some none)
    (a0 : PySem.W.nsIn K mainGlobals "_law_mixed" = some (some (.ref f0)))
    (l0 : K.lookup f0 = some ⟨oc0, od0, .func (PySem.W.fnOf "_law_mixed" "_law_mixed" (defArgs s_law_mixed) (defBody s_law_mixed) (defScope s_law_mixed) .none kV0 dc0 pm0 an0 cd0 ct0), sl0⟩)
    (c0 : PySem.W.codeIn K cd0 "_law_mixed" = true) (k0 : PySem.W.keepIn K (.ref f0) = true)
    (a1 : PySem.W.nsIn K mainGlobals "_law_numbers" = some (some (.ref f1)))
    (l1 : K.lookup f1 = some ⟨oc1, od1, .func (PySem.W.fnOf "_law_numbers" "_law_numbers" (defArgs s_law_numbers) (defBody s_law_numbers) (defScope s_law_numbers) .none kV1 dc1 pm1 an1 cd1 ct1), sl1⟩)
    (c1 : PySem.W.codeIn K cd1 "_law_numbers" = true) (k1 : PySem.W.keepIn K (.ref f1) = true)
    (a2 : PySem.W.nsIn K mainGlobals "_law_draw" = some (some (.ref f2)))
    (l2 : K.lookup f2 = some ⟨oc2, od2, .func (PySem.W.fnOf "_law_draw" "_law_draw" (defArgs s_law_draw) (defBody s_law_draw) (defScope s_law_draw) .none kV2 dc2 pm2 an2 cd2 ct2), sl2⟩)
    (c2 : PySem.W.codeIn K cd2 "_law_draw" = true) (k2 : PySem.W.keepIn K (.ref f2) = true)
    (a3 : PySem.W.nsIn K mainGlobals "_law_bundle" = some (some (.ref f3)))
    (l3 : K.lookup f3 = some ⟨oc3, od3, .func (PySem.W.fnOf "_law_bundle" "_law_bundle" (defArgs s_law_bundle) (defBody s_law_bundle) (defScope s_law_bundle) .none kV3 dc3 pm3 an3 cd3 ct3), sl3⟩)
    (c3 : PySem.W.codeIn K cd3 "_law_bundle" = true) (k3 : PySem.W.keepIn K (.ref f3) = true)
    (a4 : PySem.W.nsIn K mainGlobals "_law_all_equal" = some (some (.ref f4)))
    (l4 : K.lookup f4 = some ⟨oc4, od4, .func (PySem.W.fnOf "_law_all_equal" "_law_all_equal" (defArgs s_law_all_equal) (defBody s_law_all_equal) (defScope s_law_all_equal) .none kV4 dc4 pm4 an4 cd4 ct4), sl4⟩)
    (c4 : PySem.W.codeIn K cd4 "_law_all_equal" = true) (k4 : PySem.W.keepIn K (.ref f4) = true)
    (a5 : PySem.W.nsIn K mainGlobals "_law_equal" = some (some (.ref f5)))
    (l5 : K.lookup f5 = some ⟨oc5, od5, .func (PySem.W.fnOf "_law_equal" "_law_equal" (defArgs s_law_equal) (defBody s_law_equal) (defScope s_law_equal) .none kV5 dc5 pm5 an5 cd5 ct5), sl5⟩)
    (c5 : PySem.W.codeIn K cd5 "_law_equal" = true) (k5 : PySem.W.keepIn K (.ref f5) = true)
    (a6 : PySem.W.nsIn K mainGlobals "_law_counts" = some (some (.ref f6)))
    (l6 : K.lookup f6 = some ⟨oc6, od6, .func (PySem.W.fnOf "_law_counts" "_law_counts" (defArgs s_law_counts) (defBody s_law_counts) (defScope s_law_counts) .none kV6 dc6 pm6 an6 cd6 ct6), sl6⟩)
    (c6 : PySem.W.codeIn K cd6 "_law_counts" = true) (k6 : PySem.W.keepIn K (.ref f6) = true)
    (a7 : PySem.W.nsIn K mainGlobals "is_between" = some (some (.ref f7)))
    (l7 : K.lookup f7 = some ⟨oc7, od7, .func (PySem.W.fnOf "is_between" "is_between" (defArgs s_is_between) (defBody s_is_between) (defScope s_is_between) .none kV7 dc7 pm7 an7 cd7 ct7), sl7⟩)
    (c7 : PySem.W.codeIn K cd7 "is_between" = true) (k7 : PySem.W.keepIn K (.ref f7) = true)
    (a8 : PySem.W.nsIn K mainGlobals "is_row" = some (some (.ref f8)))
    (l8 : K.lookup f8 = some ⟨oc8, od8, .func (PySem.W.fnOf "is_row" "is_row" (defArgs s_is_row) (defBody s_is_row) (defScope s_is_row) .none kV8 dc8 pm8 an8 cd8 ct8), sl8⟩)
    (c8 : PySem.W.codeIn K cd8 "is_row" = true) (k8 : PySem.W.keepIn K (.ref f8) = true)
    (a9 : PySem.W.nsIn K mainGlobals "is_bundle" = some (some (.ref f9)))
    (l9 : K.lookup f9 = some ⟨oc9, od9, .func (PySem.W.fnOf "is_bundle" "is_bundle" (defArgs s_is_bundle) (defBody s_is_bundle) (defScope s_is_bundle) .none kV9 dc9 pm9 an9 cd9 ct9), sl9⟩)
    (c9 : PySem.W.codeIn K cd9 "is_bundle" = true) (k9 : PySem.W.keepIn K (.ref f9) = true)
    (a10 : PySem.W.nsIn K mainGlobals "check_bundle" = some (some (.ref f10)))
    (l10 : K.lookup f10 = some ⟨oc10, od10, .func (PySem.W.fnOf "check_bundle" "check_bundle" (defArgs s_check_bundle) (defBody s_check_bundle) (defScope s_check_bundle) .none kV10 dc10 pm10 an10 cd10 ct10), sl10⟩)
    (c10 : PySem.W.codeIn K cd10 "check_bundle" = true) (k10 : PySem.W.keepIn K (.ref f10) = true)
    (a11 : PySem.W.nsIn K mainGlobals "check_vector" = some (some (.ref f11)))
    (l11 : K.lookup f11 = some ⟨oc11, od11, .func (PySem.W.fnOf "check_vector" "check_vector" (defArgs s_check_vector) (defBody s_check_vector) (defScope s_check_vector) .none kV11 dc11 pm11 an11 cd11 ct11), sl11⟩)
    (c11 : PySem.W.codeIn K cd11 "check_vector" = true) (k11 : PySem.W.keepIn K (.ref f11) = true)
    (a12 : PySem.W.nsIn K mainGlobals "added" = some (some (.ref f12)))
    (l12 : K.lookup f12 = some ⟨oc12, od12, .func (PySem.W.fnOf "added" "added" (defArgs s_added) (defBody s_added) (defScope s_added) .none kV12 dc12 pm12 an12 cd12 ct12), sl12⟩)
    (c12 : PySem.W.codeIn K cd12 "added" = true) (k12 : PySem.W.keepIn K (.ref f12) = true)
    (a13 : PySem.W.findIn K (.ref DCounting) "__init__" = some (some (.ref f13))) (i13 : PySem.W.isFn K (.ref f13) = true)
    (l13 : K.lookup f13 = some ⟨oc13, od13, .func (PySem.W.fnOf "__init__" "Counting.__init__" (defArgs s_Counting__init) (defBody s_Counting__init) (defScope s_Counting__init) .none kV13 dc13 pm13 an13 cd13 ct13), sl13⟩)
    (c13 : PySem.W.codeIn K cd13 "Counting.__init__" = true) (k13 : PySem.W.keepIn K (.ref f13) = true)
    (a14 : PySem.W.findIn K (.ref DCounting) "counts_from" = some (some (.ref f14))) (i14 : PySem.W.isFn K (.ref f14) = true)
    (l14 : K.lookup f14 = some ⟨oc14, od14, .func (PySem.W.fnOf "counts_from" "Counting.counts_from" (defArgs s_Counting__counts_from) (defBody s_Counting__counts_from) (defScope s_Counting__counts_from) .none kV14 dc14 pm14 an14 cd14 ct14), sl14⟩)
    (c14 : PySem.W.codeIn K cd14 "Counting.counts_from" = true) (k14 : PySem.W.keepIn K (.ref f14) = true)
    (a15 : PySem.W.nsIn K mainGlobals "counts_told" = some (some (.ref f15)))
    (l15 : K.lookup f15 = some ⟨oc15, od15, .func (PySem.W.fnOf "counts_told" "counts_told" (defArgs s_counts_told) (defBody s_counts_told) (defScope s_counts_told) .none kV15 dc15 pm15 an15 cd15 ct15), sl15⟩)
    (c15 : PySem.W.codeIn K cd15 "counts_told" = true) (k15 : PySem.W.keepIn K (.ref f15) = true)
    (a16 : PySem.W.nsIn K mainGlobals "places_of" = some (some (.ref f16)))
    (l16 : K.lookup f16 = some ⟨oc16, od16, .func (PySem.W.fnOf "places_of" "places_of" (defArgs s_places_of) (defBody s_places_of) (defScope s_places_of) .none kV16 dc16 pm16 an16 cd16 ct16), sl16⟩)
    (c16 : PySem.W.codeIn K cd16 "places_of" = true) (k16 : PySem.W.keepIn K (.ref f16) = true)
    (a17 : PySem.W.nsIn K mainGlobals "counts_for" = some (some (.ref f17)))
    (l17 : K.lookup f17 = some ⟨oc17, od17, .func (PySem.W.fnOf "counts_for" "counts_for" (defArgs s_counts_for) (defBody s_counts_for) (defScope s_counts_for) .none kV17 dc17 pm17 an17 cd17 ct17), sl17⟩)
    (c17 : PySem.W.codeIn K cd17 "counts_for" = true) (k17 : PySem.W.keepIn K (.ref f17) = true)
    (a18 : PySem.W.nsIn K mainGlobals "_law_refused" = some (some (.ref f18)))
    (l18 : K.lookup f18 = some ⟨oc18, od18, .func (PySem.W.fnOf "_law_refused" "_law_refused" (defArgs s_law_refused) (defBody s_law_refused) (defScope s_law_refused) .none kV18 dc18 pm18 an18 cd18 ct18), sl18⟩)
    (c18 : PySem.W.codeIn K cd18 "_law_refused" = true) (k18 : PySem.W.keepIn K (.ref f18) = true)
    (a19 : PySem.W.nsIn K mainGlobals "check_bundles" = some (some (.ref f19)))
    (l19 : K.lookup f19 = some ⟨oc19, od19, .func (PySem.W.fnOf "check_bundles" "check_bundles" (defArgs s_check_bundles) (defBody s_check_bundles) (defScope s_check_bundles) .none kV19 dc19 pm19 an19 cd19 ct19), sl19⟩)
    (c19 : PySem.W.codeIn K cd19 "check_bundles" = true) (k19 : PySem.W.keepIn K (.ref f19) = true)
    (a20 : PySem.W.nsIn K mainGlobals "check_asked" = some (some (.ref f20)))
    (l20 : K.lookup f20 = some ⟨oc20, od20, .func (PySem.W.fnOf "check_asked" "check_asked" (defArgs s_check_asked) (defBody s_check_asked) (defScope s_check_asked) .none kV20 dc20 pm20 an20 cd20 ct20), sl20⟩)
    (c20 : PySem.W.codeIn K cd20 "check_asked" = true) (k20 : PySem.W.keepIn K (.ref f20) = true)
    (a21 : PySem.W.nsIn K mainGlobals "way_told" = some (some (.ref f21)))
    (l21 : K.lookup f21 = some ⟨oc21, od21, .func (PySem.W.fnOf "way_told" "way_told" (defArgs s_way_told) (defBody s_way_told) (defScope s_way_told) .none kV21 dc21 pm21 an21 cd21 ct21), sl21⟩)
    (c21 : PySem.W.codeIn K cd21 "way_told" = true) (k21 : PySem.W.keepIn K (.ref f21) = true)
    (a22 : PySem.W.nsIn K mainGlobals "has_vector" = some (some (.ref f22)))
    (l22 : K.lookup f22 = some ⟨oc22, od22, .func (PySem.W.fnOf "has_vector" "has_vector" (defArgs s_has_vector) (defBody s_has_vector) (defScope s_has_vector) .none kV22 dc22 pm22 an22 cd22 ct22), sl22⟩)
    (c22 : PySem.W.codeIn K cd22 "has_vector" = true) (k22 : PySem.W.keepIn K (.ref f22) = true)
    (a23 : PySem.W.nsIn K mainGlobals "way_in" = some (some (.ref f23)))
    (l23 : K.lookup f23 = some ⟨oc23, od23, .func (PySem.W.fnOf "way_in" "way_in" (defArgs s_way_in) (defBody s_way_in) (defScope s_way_in) .none kV23 dc23 pm23 an23 cd23 ct23), sl23⟩)
    (c23 : PySem.W.codeIn K cd23 "way_in" = true) (k23 : PySem.W.keepIn K (.ref f23) = true)
    (a24 : PySem.W.nsIn K mainGlobals "is_way_in" = some (some (.ref f24)))
    (l24 : K.lookup f24 = some ⟨oc24, od24, .func (PySem.W.fnOf "is_way_in" "is_way_in" (defArgs s_is_way_in) (defBody s_is_way_in) (defScope s_is_way_in) .none kV24 dc24 pm24 an24 cd24 ct24), sl24⟩)
    (c24 : PySem.W.codeIn K cd24 "is_way_in" = true) (k24 : PySem.W.keepIn K (.ref f24) = true)
    (a25 : PySem.W.nsIn K mainGlobals "_law_right" = some (some (.ref f25)))
    (l25 : K.lookup f25 = some ⟨oc25, od25, .func (PySem.W.fnOf "_law_right" "_law_right" (defArgs s_law_right) (defBody s_law_right) (defScope s_law_right) .none kV25 dc25 pm25 an25 cd25 ct25), sl25⟩)
    (c25 : PySem.W.codeIn K cd25 "_law_right" = true) (k25 : PySem.W.keepIn K (.ref f25) = true)
    (a26 : PySem.W.nsIn K mainGlobals "law" = some (some (.ref f26)))
    (l26 : K.lookup f26 = some ⟨oc26, od26, .func (PySem.W.fnOf "law" "law" (defArgs s_law) (defBody s_law) (defScope s_law) .none kV26 dc26 pm26 an26 cd26 ct26), sl26⟩)
    (c26 : PySem.W.codeIn K cd26 "law" = true) (k26 : PySem.W.keepIn K (.ref f26) = true)
    (aC0 : PySem.W.nsIn K mainGlobals "BadArgument" = some (some (.ref C0))) (q0 : PySem.W.excIn K C0 [.type "ValueError", .type "Exception", .type "BaseException", .type "object"] "ValueError.__new__" = true) (kC0 : PySem.W.keepIn K (.ref C0) = true) (sC0 : PySem.W.subIn K (.ref C0) (.type "BaseException") = some true) (tC0 : PySem.W.typeIn K (.ref C0) = some (.type "type")) (iC0 : PySem.W.isClsIn K C0 = true)
    (aC1 : PySem.W.nsIn K mainGlobals "BadFan" = some (some (.ref C1))) (q1 : PySem.W.excIn K C1 [.type "ValueError", .type "Exception", .type "BaseException", .type "object"] "ValueError.__new__" = true) (kC1 : PySem.W.keepIn K (.ref C1) = true) (sC1 : PySem.W.subIn K (.ref C1) (.type "BaseException") = some true) (tC1 : PySem.W.typeIn K (.ref C1) = some (.type "type")) (iC1 : PySem.W.isClsIn K C1 = true)
    (u0_0 : PySem.W.subIn K (.ref C0) (.ref C0) = some true)
    (u0_1 : PySem.W.subIn K (.ref C0) (.ref C1) = some false)
    (u1_0 : PySem.W.subIn K (.ref C1) (.ref C0) = some false)
    (u1_1 : PySem.W.subIn K (.ref C1) (.ref C1) = some true)
    (z_bool : PySem.W.nsIn K mainGlobals "bool" = some none)
    (z_int : PySem.W.nsIn K mainGlobals "int" = some none)
    (z_isinstance : PySem.W.nsIn K mainGlobals "isinstance" = some none)
    (z_len : PySem.W.nsIn K mainGlobals "len" = some none)
    (z_list : PySem.W.nsIn K mainGlobals "list" = some none)
    (z_max : PySem.W.nsIn K mainGlobals "max" = some none)
    (z_min : PySem.W.nsIn K mainGlobals "min" = some none)
    (z_range : PySem.W.nsIn K mainGlobals "range" = some none)
    (z_sorted : PySem.W.nsIn K mainGlobals "sorted" = some none)
    (z_str : PySem.W.nsIn K mainGlobals "str" = some none)
    (z_sum : PySem.W.nsIn K mainGlobals "sum" = some none)
    (z_tuple : PySem.W.nsIn K mainGlobals "tuple" = some none)
    (v_MOST_BASE : PySem.W.nsIn K mainGlobals "MOST_BASE" = some (some (.int 1000000 t_MOST_BASE)))
    (v_MOST_BUNDLES : PySem.W.nsIn K mainGlobals "MOST_BUNDLES" = some (some (.int 400 t_MOST_BUNDLES)))
    (v_MOST_PLACES : PySem.W.nsIn K mainGlobals "MOST_PLACES" = some (some (.int 3 t_MOST_PLACES)))
    (v_MOST_RAY : PySem.W.nsIn K mainGlobals "MOST_RAY" = some (some (.int 10000 t_MOST_RAY)))
    (v_MOST_RAYS : PySem.W.nsIn K mainGlobals "MOST_RAYS" = some (some (.int 12 t_MOST_RAYS)))
    (v_MOST_VECTOR : PySem.W.nsIn K mainGlobals "MOST_VECTOR" = some (some (.int 40 t_MOST_VECTOR))) :
    ∃ fd : FuncData, (∀ (s : Shared) (v : Value), BindsTo s fd ⟨[v], []⟩ [("script", v)]) ∧ ∀ base : Heap, K.In base → base.Ns mainGlobals mg → FnOk l.prog w K mg base (L2.CX l.prog w) 41 fa fd ["script"] (spLaw K) := by
  have e := hfa.symm.trans (PySem.W.mg_of X G a26)
  cases e
  have F0 := fun_mk (st := s_law_mixed) l0 c0 k0
  have D0 : Df K mg "_law_mixed" s_law_mixed ["number", "k"] := ⟨_, _, F0, PySem.W.mg_of X G a0, F0.binds (ps := ["number", "k"]) fun _ _ _ _ _ _ us hl => match us, hl with | [_, _], _ => rfl⟩
  have F1 := fun_mk (st := s_law_numbers) l1 c1 k1
  have D1 : Df K mg "_law_numbers" s_law_numbers ["script"] := ⟨_, _, F1, PySem.W.mg_of X G a1, F1.binds (ps := ["script"]) fun _ _ _ _ _ _ us hl => match us, hl with | [_], _ => rfl⟩
  have F2 := fun_mk (st := s_law_draw) l2 c2 k2
  have D2 : Df K mg "_law_draw" s_law_draw ["draws"] := ⟨_, _, F2, PySem.W.mg_of X G a2, F2.binds (ps := ["draws"]) fun _ _ _ _ _ _ us hl => match us, hl with | [_], _ => rfl⟩
  have F3 := fun_mk (st := s_law_bundle) l3 c3 k3
  have D3 : Df K mg "_law_bundle" s_law_bundle ["draws", "d", "rays", "top"] := ⟨_, _, F3, PySem.W.mg_of X G a3, F3.binds (ps := ["draws", "d", "rays", "top"]) fun _ _ _ _ _ _ us hl => match us, hl with | [_, _, _, _], _ => rfl⟩
  have F4 := fun_mk (st := s_law_all_equal) l4 c4 k4
  have D4 : Df K mg "_law_all_equal" s_law_all_equal ["actual", "due"] := ⟨_, _, F4, PySem.W.mg_of X G a4, F4.binds (ps := ["actual", "due"]) fun _ _ _ _ _ _ us hl => match us, hl with | [_, _], _ => rfl⟩
  have F5 := fun_mk (st := s_law_equal) l5 c5 k5
  have D5 : Df K mg "_law_equal" s_law_equal ["actual", "due"] := ⟨_, _, F5, PySem.W.mg_of X G a5, F5.binds (ps := ["actual", "due"]) fun _ _ _ _ _ _ us hl => match us, hl with | [_, _], _ => rfl⟩
  have F6 := fun_mk (st := s_law_counts) l6 c6 k6
  have D6 : Df K mg "_law_counts" s_law_counts ["base", "rays", "vector"] := ⟨_, _, F6, PySem.W.mg_of X G a6, F6.binds (ps := ["base", "rays", "vector"]) fun _ _ _ _ _ _ us hl => match us, hl with | [_, _, _], _ => rfl⟩
  have F7 := fun_mk (st := s_is_between) l7 c7 k7
  have D7 : Df K mg "is_between" s_is_between ["value", "low", "high"] := ⟨_, _, F7, PySem.W.mg_of X G a7, F7.binds (ps := ["value", "low", "high"]) fun _ _ _ _ _ _ us hl => match us, hl with | [_, _, _], _ => rfl⟩
  have F8 := fun_mk (st := s_is_row) l8 c8 k8
  have D8 : Df K mg "is_row" s_is_row ["value", "many", "low", "high"] := ⟨_, _, F8, PySem.W.mg_of X G a8, F8.binds (ps := ["value", "many", "low", "high"]) fun _ _ _ _ _ _ us hl => match us, hl with | [_, _, _, _], _ => rfl⟩
  have F9 := fun_mk (st := s_is_bundle) l9 c9 k9
  have D9 : Df K mg "is_bundle" s_is_bundle ["value"] := ⟨_, _, F9, PySem.W.mg_of X G a9, F9.binds (ps := ["value"]) fun _ _ _ _ _ _ us hl => match us, hl with | [_], _ => rfl⟩
  have F10 := fun_mk (st := s_check_bundle) l10 c10 k10
  have D10 : Df K mg "check_bundle" s_check_bundle ["value"] := ⟨_, _, F10, PySem.W.mg_of X G a10, F10.binds (ps := ["value"]) fun _ _ _ _ _ _ us hl => match us, hl with | [_], _ => rfl⟩
  have F11 := fun_mk (st := s_check_vector) l11 c11 k11
  have D11 : Df K mg "check_vector" s_check_vector ["value", "many"] := ⟨_, _, F11, PySem.W.mg_of X G a11, F11.binds (ps := ["value", "many"]) fun _ _ _ _ _ _ us hl => match us, hl with | [_, _], _ => rfl⟩
  have F12 := fun_mk (st := s_added) l12 c12 k12
  have D12 : Df K mg "added" s_added ["one", "other", "times"] := ⟨_, _, F12, PySem.W.mg_of X G a12, F12.binds (ps := ["one", "other", "times"]) fun _ _ _ _ _ _ us hl => match us, hl with | [_, _, _], _ => rfl⟩
  have F13 := fun_mk (st := s_Counting__init) l13 c13 k13
  have D13 : DfI K (fun n => match n with | 0 => .ref C0 | 1 => .ref C1 | 2 => .ref DCounting | _ => .none) 2 "__init__" "Counting.__init__" s_Counting__init ["self", "rays"] := ⟨_, _, F13, ⟨mkCounting, a13, i13, kDCounting⟩, F13.binds (ps := ["self", "rays"]) fun _ _ _ _ _ _ us hl => match us, hl with | [_, _], _ => rfl⟩
  have F14 := fun_mk (st := s_Counting__counts_from) l14 c14 k14
  have D14 : DfM K (fun n => match n with | 0 => .ref C0 | 1 => .ref C1 | 2 => .ref DCounting | _ => .none) 2 "counts_from" "Counting.counts_from" s_Counting__counts_from ["self", "k", "rest"] := ⟨_, _, F14, ⟨a14, i14, k14⟩, F14.binds (ps := ["self", "k", "rest"]) fun _ _ _ _ _ _ us hl => match us, hl with | [_, _, _], _ => rfl⟩
  have F15 := fun_mk (st := s_counts_told) l15 c15 k15
  have D15 : Df K mg "counts_told" s_counts_told ["bundle", "vector"] := ⟨_, _, F15, PySem.W.mg_of X G a15, F15.binds (ps := ["bundle", "vector"]) fun _ _ _ _ _ _ us hl => match us, hl with | [_, _], _ => rfl⟩
  have F16 := fun_mk (st := s_places_of) l16 c16 k16
  have D16 : Df K mg "places_of" s_places_of ["bundle"] := ⟨_, _, F16, PySem.W.mg_of X G a16, F16.binds (ps := ["bundle"]) fun _ _ _ _ _ _ us hl => match us, hl with | [_], _ => rfl⟩
  have F17 := fun_mk (st := s_counts_for) l17 c17 k17
  have D17 : Df K mg "counts_for" s_counts_for ["bundle", "vector"] := ⟨_, _, F17, PySem.W.mg_of X G a17, F17.binds (ps := ["bundle", "vector"]) fun _ _ _ _ _ _ us hl => match us, hl with | [_, _], _ => rfl⟩
  have F18 := fun_mk (st := s_law_refused) l18 c18 k18
  have D18 : Df K mg "_law_refused" s_law_refused ["bundle", "vector"] := ⟨_, _, F18, PySem.W.mg_of X G a18, F18.binds (ps := ["bundle", "vector"]) fun _ _ _ _ _ _ us hl => match us, hl with | [_, _], _ => rfl⟩
  have F19 := fun_mk (st := s_check_bundles) l19 c19 k19
  have D19 : Df K mg "check_bundles" s_check_bundles ["value"] := ⟨_, _, F19, PySem.W.mg_of X G a19, F19.binds (ps := ["value"]) fun _ _ _ _ _ _ us hl => match us, hl with | [_], _ => rfl⟩
  have F20 := fun_mk (st := s_check_asked) l20 c20 k20
  have D20 : Df K mg "check_asked" s_check_asked ["bundles", "vector"] := ⟨_, _, F20, PySem.W.mg_of X G a20, F20.binds (ps := ["bundles", "vector"]) fun _ _ _ _ _ _ us hl => match us, hl with | [_, _], _ => rfl⟩
  have F21 := fun_mk (st := s_way_told) l21 c21 k21
  have D21 : Df K mg "way_told" s_way_told ["bundles", "vector"] := ⟨_, _, F21, PySem.W.mg_of X G a21, F21.binds (ps := ["bundles", "vector"]) fun _ _ _ _ _ _ us hl => match us, hl with | [_, _], _ => rfl⟩
  have F22 := fun_mk (st := s_has_vector) l22 c22 k22
  have D22 : Df K mg "has_vector" s_has_vector ["bundles", "vector"] := ⟨_, _, F22, PySem.W.mg_of X G a22, F22.binds (ps := ["bundles", "vector"]) fun _ _ _ _ _ _ us hl => match us, hl with | [_, _], _ => rfl⟩
  have F23 := fun_mk (st := s_way_in) l23 c23 k23
  have D23 : Df K mg "way_in" s_way_in ["bundles", "vector"] := ⟨_, _, F23, PySem.W.mg_of X G a23, F23.binds (ps := ["bundles", "vector"]) fun _ _ _ _ _ _ us hl => match us, hl with | [_, _], _ => rfl⟩
  have F24 := fun_mk (st := s_is_way_in) l24 c24 k24
  have D24 : Df K mg "is_way_in" s_is_way_in ["bundles", "vector", "value"] := ⟨_, _, F24, PySem.W.mg_of X G a24, F24.binds (ps := ["bundles", "vector", "value"]) fun _ _ _ _ _ _ us hl => match us, hl with | [_, _, _], _ => rfl⟩
  have F25 := fun_mk (st := s_law_right) l25 c25 k25
  have D25 : Df K mg "_law_right" s_law_right ["bundles", "vector", "value"] := ⟨_, _, F25, PySem.W.mg_of X G a25, F25.binds (ps := ["bundles", "vector", "value"]) fun _ _ _ _ _ _ us hl => match us, hl with | [_, _, _], _ => rfl⟩
  have F26 := fun_mk (st := s_law) l26 c26 k26
  have T : Tx K mg (fun n => match n with | 0 => .ref C0 | 1 => .ref C1 | 2 => .ref DCounting | _ => .none) := {
    n_bool := PySem.W.mg_none_of X G z_bool
    n_int := PySem.W.mg_none_of X G z_int
    n_isinstance := PySem.W.mg_none_of X G z_isinstance
    n_len := PySem.W.mg_none_of X G z_len
    n_list := PySem.W.mg_none_of X G z_list
    n_max := PySem.W.mg_none_of X G z_max
    n_min := PySem.W.mg_none_of X G z_min
    n_range := PySem.W.mg_none_of X G z_range
    n_sorted := PySem.W.mg_none_of X G z_sorted
    n_str := PySem.W.mg_none_of X G z_str
    n_sum := PySem.W.mg_none_of X G z_sum
    n_tuple := PySem.W.mg_none_of X G z_tuple
    c_MOST_BASE := ⟨_, PySem.W.mg_of X G v_MOST_BASE⟩
    c_MOST_BUNDLES := ⟨_, PySem.W.mg_of X G v_MOST_BUNDLES⟩
    c_MOST_PLACES := ⟨_, PySem.W.mg_of X G v_MOST_PLACES⟩
    c_MOST_RAY := ⟨_, PySem.W.mg_of X G v_MOST_RAY⟩
    c_MOST_RAYS := ⟨_, PySem.W.mg_of X G v_MOST_RAYS⟩
    c_MOST_VECTOR := ⟨_, PySem.W.mg_of X G v_MOST_VECTOR⟩
    e_0 := ⟨C0, rfl, PySem.W.mg_of X G aC0, q0, kC0, sC0, tC0⟩
    x_0 := fun m hm => match m, hm with | 0, _ => exm_of sC0 iC0 tC0 u0_0 | 1, _ => exm_of sC0 iC0 tC0 u1_0
    g_0 := PySem.W.mg_of X G aC0
    e_1 := ⟨C1, rfl, PySem.W.mg_of X G aC1, q1, kC1, sC1, tC1⟩
    x_1 := fun m hm => match m, hm with | 0, _ => exm_of sC1 iC1 tC1 u0_1 | 1, _ => exm_of sC1 iC1 tC1 u1_1
    g_1 := PySem.W.mg_of X G aC1
    ck_Counting := ⟨rfl, ⟨pgCounting, hdCounting, poCounting, saCounting⟩⟩
    gc_Counting := PySem.W.mg_of X G aDCounting
    na_Counting_rays_told := naCounting_rays_told
    na_Counting_barred := naCounting_barred
  }
  refine ⟨PySem.W.fnOf "law" "law" (defArgs s_law) (defBody s_law) (defScope s_law) .none kV26 dc26 pm26 an26 cd26 ct26, fun s v => .of_eq rfl, fun base _ _ => ?_⟩
  have K_law_mixed := ok_law_mixed (P := l.prog) (w := w) (base := base) T D0 
  have K_law_numbers := ok_law_numbers (P := l.prog) (w := w) (base := base) T D1 (k_law_mixed := K_law_mixed) numbers_ok
  have K_law_draw := ok_law_draw (P := l.prog) (w := w) (base := base) T D2 (k_law_mixed := K_law_mixed)
  have K_law_bundle := ok_law_bundle (P := l.prog) (w := w) (base := base) T D3 (k_law_draw := K_law_draw)
  have K_law_equal := ok_law_equal40 (P := l.prog) (w := w) (base := base) T D5 D4
  have K_law_counts := ok_law_counts (P := l.prog) (w := w) (base := base) T D6 
  have K_is_between := ok_is_between (P := l.prog) (w := w) (base := base) T D7 
  have K_is_row := ok_is_row (P := l.prog) (w := w) (base := base) T D8 (k_is_between := K_is_between)
  have K_is_bundle := ok_is_bundle (P := l.prog) (w := w) (base := base) T D9 (k_is_row := K_is_row)
  have K_check_bundle := ok_check_bundle (P := l.prog) (w := w) (base := base) T D10 (k_is_bundle := K_is_bundle)
  have K_check_vector := ok_check_vector (P := l.prog) (w := w) (base := base) T D11 (k_is_row := K_is_row)
  have K_added := ok_added (P := l.prog) (w := w) (base := base) T D12 
  have K_Counting__init := ok_Counting__init (P := l.prog) (w := w) (base := base) T D13 
  have K_Counting__counts_from := ok_Counting__counts_from (P := l.prog) (w := w) (base := base) T D14 (k_added := K_added)
  have K_counts_told := ok_counts_told (P := l.prog) (w := w) (base := base) T D15 (k_added := K_added) (k_Counting__init := K_Counting__init) (k_Counting__counts_from := K_Counting__counts_from)
  have K_places_of := ok_places_of (P := l.prog) (w := w) (base := base) T D16 
  have K_counts_for := ok_counts_for (P := l.prog) (w := w) (base := base) T D17 (k_check_bundle := K_check_bundle) (k_check_vector := K_check_vector) (k_places_of := K_places_of) (k_counts_told := K_counts_told)
  have K_law_refused := ok_law_refused (P := l.prog) (w := w) (base := base) T D18 (k_counts_for := K_counts_for)
  have K_check_bundles := ok_check_bundles (P := l.prog) (w := w) (base := base) T D19 (k_is_bundle := K_is_bundle) (k_places_of := K_places_of)
  have K_check_asked := ok_check_asked (P := l.prog) (w := w) (base := base) T D20 (k_check_bundles := K_check_bundles) (k_places_of := K_places_of) (k_check_vector := K_check_vector)
  have K_way_told := ok_way_told (P := l.prog) (w := w) (base := base) T D21 (k_counts_told := K_counts_told)
  have K_has_vector := ok_has_vector (P := l.prog) (w := w) (base := base) T D22 (k_check_asked := K_check_asked) (k_way_told := K_way_told)
  have K_way_in := ok_way_in (P := l.prog) (w := w) (base := base) T D23 (k_check_asked := K_check_asked) (k_way_told := K_way_told)
  have K_is_way_in := ok_is_way_in (P := l.prog) (w := w) (base := base) T D24 (k_check_asked := K_check_asked) (k_is_between := K_is_between) (k_is_row := K_is_row) (k_added := K_added)
  have K_law_right := ok_law_right (P := l.prog) (w := w) (base := base) T D25 
  exact ok_law T F26 K_law_numbers (k_law_draw := K_law_draw) (k_law_bundle := K_law_bundle) (k_law_counts := K_law_counts) (k_law_equal := K_law_equal) (k_counts_for := K_counts_for) (k_has_vector := K_has_vector) (k_way_in := K_way_in) (k_is_way_in := K_is_way_in) (k_law_right := K_law_right) (k_law_refused := K_law_refused) law_runs
end
end K
open PySem PySem.W PyProof.Rows
set_option maxRecDepth 100000 in
set_option maxHeartbeats 0 in
theorem PySem.Challenge.cw_everypurse_k20_bundles_and_counts_holds : PySem.Challenge.rw_everypurse_k20_bundles_and_counts.Holds := by
  w_on; o_law; k_head; (case hw => w_witness2)
  k_fill
  refine L2.walk_of (l := PySem.Challenge.rw_everypurse_k20_bundles_and_counts) (n := 63) (k := 41) (x := "script") (CX := fun w => L2.CX (PySem.Challenge.rw_everypurse_k20_bundles_and_counts).prog w) (sp := fun w => DL.spLaw _) rfl (by decide) rfl ⟨rfl, by decide, by decide⟩ (fun w h Y => PySem.W.kIn_of Y) ?F (fun w H a ns hl ho hS => ⟨a, ns, rfl, hS, hl, ho, fun _ => rfl⟩) (fun _ _ _ _ _ h => K.cx_no h)
  case F =>
    intro w mg fa h KX G hmg
    refine' K.all_mk KX G hmg ?aDCounting ?pgCounting ?hdCounting ?poCounting ?saCounting ?mkCounting ?kDCounting ?naCounting_rays_told ?naCounting_barred ?a0 ?l0 ?c0 ?k0 ?a1 ?l1 ?c1 ?k1 ?a2 ?l2 ?c2 ?k2 ?a3 ?l3 ?c3 ?k3 ?a4 ?l4 ?c4 ?k4 ?a5 ?l5 ?c5 ?k5 ?a6 ?l6 ?c6 ?k6 ?a7 ?l7 ?c7 ?k7 ?a8 ?l8 ?c8 ?k8 ?a9 ?l9 ?c9 ?k9 ?a10 ?l10 ?c10 ?k10 ?a11 ?l11 ?c11 ?k11 ?a12 ?l12 ?c12 ?k12 ?a13 ?i13 ?l13 ?c13 ?k13 ?a14 ?i14 ?l14 ?c14 ?k14 ?a15 ?l15 ?c15 ?k15 ?a16 ?l16 ?c16 ?k16 ?a17 ?l17 ?c17 ?k17 ?a18 ?l18 ?c18 ?k18 ?a19 ?l19 ?c19 ?k19 ?a20 ?l20 ?c20 ?k20 ?a21 ?l21 ?c21 ?k21 ?a22 ?l22 ?c22 ?k22 ?a23 ?l23 ?c23 ?k23 ?a24 ?l24 ?c24 ?k24 ?a25 ?l25 ?c25 ?k25 ?a26 ?l26 ?c26 ?k26 ?aC0 ?q0 ?kC0 ?sC0 ?tC0 ?iC0 ?aC1 ?q1 ?kC1 ?sC1 ?tC1 ?iC1 ?u0_0 ?u0_1 ?u1_0 ?u1_1 ?z_bool ?z_int ?z_isinstance ?z_len ?z_list ?z_max ?z_min ?z_range ?z_sorted ?z_str ?z_sum ?z_tuple ?v_MOST_BASE ?v_MOST_BUNDLES ?v_MOST_PLACES ?v_MOST_RAY ?v_MOST_RAYS ?v_MOST_VECTOR
    (case aDCounting => k_is)
    (case pgCounting => k_is)
    (case hdCounting => k_is)
    (case poCounting => k_is)
    (case saCounting => k_is)
    (case mkCounting => k_is)
    (case kDCounting => k_is)
    (case naCounting_rays_told => k_is)
    (case naCounting_barred => k_is)
    (case a0 => k_is)
    (case l0 => k_is)
    (case c0 => k_is)
    (case k0 => k_is)
    (case a1 => k_is)
    (case l1 => k_is)
    (case c1 => k_is)
    (case k1 => k_is)
    (case a2 => k_is)
    (case l2 => k_is)
    (case c2 => k_is)
    (case k2 => k_is)
    (case a3 => k_is)
    (case l3 => k_is)
    (case c3 => k_is)
    (case k3 => k_is)
    (case a4 => k_is)
    (case l4 => k_is)
    (case c4 => k_is)
    (case k4 => k_is)
    (case a5 => k_is)
    (case l5 => k_is)
    (case c5 => k_is)
    (case k5 => k_is)
    (case a6 => k_is)
    (case l6 => k_is)
    (case c6 => k_is)
    (case k6 => k_is)
    (case a7 => k_is)
    (case l7 => k_is)
    (case c7 => k_is)
    (case k7 => k_is)
    (case a8 => k_is)
    (case l8 => k_is)
    (case c8 => k_is)
    (case k8 => k_is)
    (case a9 => k_is)
    (case l9 => k_is)
    (case c9 => k_is)
    (case k9 => k_is)
    (case a10 => k_is)
    (case l10 => k_is)
    (case c10 => k_is)
    (case k10 => k_is)
    (case a11 => k_is)
    (case l11 => k_is)
    (case c11 => k_is)
    (case k11 => k_is)
    (case a12 => k_is)
    (case l12 => k_is)
    (case c12 => k_is)
    (case k12 => k_is)
    (case a13 => k_is)
    (case i13 => k_is)
    (case l13 => k_is)
    (case c13 => k_is)
    (case k13 => k_is)
    (case a14 => k_is)
    (case i14 => k_is)
    (case l14 => k_is)
    (case c14 => k_is)
    (case k14 => k_is)
    (case a15 => k_is)
    (case l15 => k_is)
    (case c15 => k_is)
    (case k15 => k_is)
    (case a16 => k_is)
    (case l16 => k_is)
    (case c16 => k_is)
    (case k16 => k_is)
    (case a17 => k_is)
    (case l17 => k_is)
    (case c17 => k_is)
    (case k17 => k_is)
    (case a18 => k_is)
    (case l18 => k_is)
    (case c18 => k_is)
    (case k18 => k_is)
    (case a19 => k_is)
    (case l19 => k_is)
    (case c19 => k_is)
    (case k19 => k_is)
    (case a20 => k_is)
    (case l20 => k_is)
    (case c20 => k_is)
    (case k20 => k_is)
    (case a21 => k_is)
    (case l21 => k_is)
    (case c21 => k_is)
    (case k21 => k_is)
    (case a22 => k_is)
    (case l22 => k_is)
    (case c22 => k_is)
    (case k22 => k_is)
    (case a23 => k_is)
    (case l23 => k_is)
    (case c23 => k_is)
    (case k23 => k_is)
    (case a24 => k_is)
    (case l24 => k_is)
    (case c24 => k_is)
    (case k24 => k_is)
    (case a25 => k_is)
    (case l25 => k_is)
    (case c25 => k_is)
    (case k25 => k_is)
    (case a26 => k_is)
    (case l26 => k_is)
    (case c26 => k_is)
    (case k26 => k_is)
    (case aC0 => k_is)
    (case q0 => k_exc)
    (case kC0 => k_is)
    (case sC0 => k_is)
    (case tC0 => k_is)
    (case iC0 => k_is)
    (case aC1 => k_is)
    (case q1 => k_exc)
    (case kC1 => k_is)
    (case sC1 => k_is)
    (case tC1 => k_is)
    (case iC1 => k_is)
    (case u0_0 => k_is)
    (case u0_1 => k_is)
    (case u1_0 => k_is)
    (case u1_1 => k_is)
    (case z_bool => k_is)
    (case z_int => k_is)
    (case z_isinstance => k_is)
    (case z_len => k_is)
    (case z_list => k_is)
    (case z_max => k_is)
    (case z_min => k_is)
    (case z_range => k_is)
    (case z_sorted => k_is)
    (case z_str => k_is)
    (case z_sum => k_is)
    (case z_tuple => k_is)
    (case v_MOST_BASE => k_is)
    (case v_MOST_BUNDLES => k_is)
    (case v_MOST_PLACES => k_is)
    (case v_MOST_RAY => k_is)
    (case v_MOST_RAYS => k_is)
    (case v_MOST_VECTOR => k_is)


