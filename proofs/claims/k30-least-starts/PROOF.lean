import PyProof.Rows.All
import Wide.All
import OpenK.AllK
import Wide.FinOn
import HandS.ForMost
import HandS.ForExc
import HandS.IsInst
import HandS.Deep
import HandS.TupAny
import HandS.TupMul
import HandS.Flow
import HandS.Style
import HandS.Conv
import HandS.SortInts
import HandS.TryMany
import PySem.Challenge.RW_everypurse_k30_least_starts
set_option Elab.async false
set_option linter.all false
set_option maxRecDepth 100000
set_option maxHeartbeats 400000
/-! The data layer: a def's body by a plain Lean function over data (PyData), the heap hidden.
Part 1: data in a heap, results, the readings of expressions. -/
namespace DL
open PySem PySem.Spec PyProof.Rows L2

/-! ### data in a heap -/
mutual
inductive Rp (S : Hp) : V → PyData → Prop
  | non : Rp S .non .none
  | bl (b : Bool) : Rp S (.bl b) (.bool b)
  | int (i : Int) : Rp S (.int i) (.int i)
  | str (x : Str) : Rp S (.str x) (.str x)
  | lst {a : Addr} {xs : List V} {ds : List PyData} : S a = some (.lst xs) → Rps S xs ds → Rp S (.ref a) (.list ds)
  | tup {a : Addr} {xs : List V} {ds : List PyData} : S a = some (.tup xs) → Rps S xs ds → Rp S (.ref a) (.tuple ds)
inductive Rps (S : Hp) : List V → List PyData → Prop
  | nil : Rps S [] []
  | cons {v : V} {d : PyData} {vs : List V} {ds : List PyData} : Rp S v d → Rps S vs ds → Rps S (v :: vs) (d :: ds)
end

mutual
theorem Rp.mono {S S' : Hp} (h : Same S S') : ∀ {d : PyData} {v : V}, Rp S v d → Rp S' v d
  | _, _, .non => .non
  | _, _, .bl b => .bl b
  | _, _, .int i => .int i
  | _, _, .str x => .str x
  | _, _, .lst e r => .lst (h _ _ e) (Rps.mono h r)
  | _, _, .tup e r => .tup (h _ _ e) (Rps.mono h r)
theorem Rps.mono {S S' : Hp} (h : Same S S') : ∀ {ds : List PyData} {vs : List V}, Rps S vs ds → Rps S' vs ds
  | _, _, .nil => .nil
  | _, _, .cons r t => .cons (Rp.mono h r) (Rps.mono h t)
end
mutual
theorem Rp.dp {K : PySem.W.Frag} {S H : Hp} (h : Same S H) : ∀ {d : PyData} {v : V}, Rp S v d → Dp K H v d
  | _, _, .non => .non
  | _, _, .bl b => .bl b
  | _, _, .int i => .int i
  | _, _, .str x => .str x
  | _, _, .lst e r => .lst (.of (h _ _ e)) (Rps.dp h r)
  | _, _, .tup e r => .tup (.of (h _ _ e)) (Rps.dp h r)
theorem Rps.dp {K : PySem.W.Frag} {S H : Hp} (h : Same S H) : ∀ {ds : List PyData} {vs : List V}, Rps S vs ds → DpAll K H vs ds
  | _, _, .nil => .nil
  | _, _, .cons r t => .cons (Rp.dp h r) (Rps.dp h t)
end
mutual
theorem Rp.one {S : Hp} : ∀ {d d' : PyData} {v : V}, Rp S v d → Rp S v d' → d = d'
  | _, _, _, .non, .non => rfl
  | _, _, _, .bl b, .bl _ => rfl
  | _, _, _, .int i, .int _ => rfl
  | _, _, _, .str x, .str _ => rfl
  | _, _, _, .lst e r, .lst e' r' => by
    rw [e] at e'
    injection e' with e'
    injection e' with e'
    subst e'
    rw [Rps.one r r']
  | _, _, _, .tup e r, .tup e' r' => by
    rw [e] at e'
    injection e' with e'
    injection e' with e'
    subst e'
    rw [Rps.one r r']
  | _, _, _, .lst e r, .tup e' r' => by
    rw [e] at e'
    injection e' with e'
    cases e'
  | _, _, _, .tup e r, .lst e' r' => by
    rw [e] at e'
    injection e' with e'
    cases e'
theorem Rps.one {S : Hp} : ∀ {ds ds' : List PyData} {vs : List V}, Rps S vs ds → Rps S vs ds' → ds = ds'
  | _, _, _, .nil, .nil => rfl
  | _, _, _, .cons r t, .cons r' t' => by rw [Rp.one r r', Rps.one t t']
end
theorem Rps.length {S : Hp} : ∀ {ds : List PyData} {vs : List V}, Rps S vs ds → vs.length = ds.length
  | _, _, .nil => rfl
  | _, _, .cons _ t => by rw [List.length_cons, List.length_cons, Rps.length t]
theorem Rps.get {S : Hp} : ∀ {ds : List PyData} {vs : List V} {i : Nat} {v : V}, Rps S vs ds → vs[i]? = some v → ∃ d, ds[i]? = some d ∧ Rp S v d
  | _, _, _, _, .nil, e => by simp at e
  | _, _, 0, _, .cons r _, e => by simp at e; subst e; exact ⟨_, rfl, r⟩
  | _, _, i + 1, v, .cons _ t, e => by
    obtain ⟨d, h1, h2⟩ := Rps.get (i := i) (v := v) t (by simpa using e)
    exact ⟨d, by simpa using h1, h2⟩
theorem Rps.getD {S : Hp} : ∀ {ds : List PyData} {vs : List V} {i : Nat} {d : PyData}, Rps S vs ds → ds[i]? = some d → ∃ v, vs[i]? = some v ∧ Rp S v d
  | _, _, _, _, .nil, e => by simp at e
  | _, _, 0, _, .cons r _, e => by simp at e; subst e; exact ⟨_, rfl, r⟩
  | _, _, i + 1, v, .cons _ t, e => by
    obtain ⟨d, h1, h2⟩ := Rps.getD (i := i) (d := v) t (by simpa using e)
    exact ⟨d, by simpa using h1, h2⟩
theorem Rps.append {S : Hp} : ∀ {ds es : List PyData} {vs us : List V}, Rps S vs ds → Rps S us es → Rps S (vs ++ us) (ds ++ es)
  | _, _, _, _, .nil, s => s
  | _, _, _, _, .cons r t, s => .cons r (Rps.append t s)
theorem Rps.take {S : Hp} : ∀ {ds : List PyData} {vs : List V} (n : Nat), Rps S vs ds → Rps S (vs.take n) (ds.take n)
  | _, _, 0, _ => by simpa using Rps.nil
  | _, _, _ + 1, .nil => .nil
  | _, _, n + 1, .cons r t => .cons r (Rps.take n t)
theorem Rps.drop {S : Hp} : ∀ {ds : List PyData} {vs : List V} (n : Nat), Rps S vs ds → Rps S (vs.drop n) (ds.drop n)
  | _, _, 0, r => r
  | _, _, _ + 1, .nil => .nil
  | _, _, n + 1, .cons _ t => Rps.drop n t
theorem Rps.set {S : Hp} : ∀ {ds : List PyData} {vs : List V} {v : V} {d : PyData} (i : Nat), Rp S v d → Rps S vs ds → Rps S (vs.set i v) (ds.set i d)
  | _, _, _, _, _, _, .nil => .nil
  | _, _, _, _, 0, r, .cons _ t => .cons r t
  | _, _, _, _, i + 1, r, .cons q t => .cons q (Rps.set i r t)
theorem Rps.reverse {S : Hp} : ∀ {ds : List PyData} {vs : List V}, Rps S vs ds → Rps S vs.reverse ds.reverse
  | _, _, .nil => .nil
  | _, _, .cons r t => by
    rw [List.reverse_cons, List.reverse_cons]
    exact (Rps.reverse t).append (.cons r .nil)
theorem Rps.flatten {S : Hp} {vs : List V} {ds : List PyData} (r : Rps S vs ds) : ∀ n : Nat, Rps S (List.replicate n vs).flatten (List.replicate n ds).flatten
  | 0 => .nil
  | n + 1 => by
    rw [List.replicate_succ, List.replicate_succ, List.flatten_cons, List.flatten_cons]
    exact r.append (Rps.flatten r n)
theorem Rps.ints {S : Hp} : ∀ {ns : List Int} {vs : List V}, Rps S vs (ns.map PyData.int) → vs = ns.map V.int
  | [], _, .nil => rfl
  | n :: ns, _, .cons r t => by
    cases r
    rw [Rps.ints t, List.map_cons]
theorem Rps.of_ints {S : Hp} : ∀ ns : List Int, Rps S (ns.map V.int) (ns.map PyData.int)
  | [] => .nil
  | n :: ns => .cons (.int n) (Rps.of_ints ns)

/-! ### results -/
/-- the draws: the numbers, how many are taken; none: there are none yet -/
abbrev G := Option (List Int × Int)
inductive R (α : Type) where
  | ok (a : α) (g : G)
  /-- the exception of the class n -/
  | ex (n : Nat) (g : G)
  | bad
def R.bind {α β : Type} (r : R α) (f : α → G → R β) : R β := match r with
  | .ok a g => f a g
  | .ex n g => .ex n g
  | .bad => .bad
@[simp] theorem R.bind_ok {α β : Type} (a : α) (g : G) (f : α → G → R β) : (R.ok a g).bind f = f a g := rfl
@[simp] theorem R.bind_ex {α β : Type} (n : Nat) (g : G) (f : α → G → R β) : (R.ex n g : R α).bind f = .ex n g := rfl
@[simp] theorem R.bind_bad {α β : Type} (f : α → G → R β) : (R.bad : R α).bind f = .bad := rfl
def ofO {α : Type} (o : Option α) (g : G) : R α := match o with
  | some a => .ok a g
  | none => .bad
@[simp] theorem ofO_some {α : Type} (a : α) (g : G) : ofO (some a) g = .ok a g := rfl
@[simp] theorem ofO_none {α : Type} (g : G) : ofO (none : Option α) g = .bad := rfl

/-- a thing that one name alone holds, and that may be changed -/
inductive Ob where
  | lst (ds : List PyData)
  | dk (kvs : List (Key × PyData))
  | dt (kvs : List (List Key × PyData))
  | mat (rows : List (List PyData))
inductive ObAt (S : Hp) : Ob → HO → Prop
  | lst {ds : List PyData} {vs : List V} : Rps S vs ds → ObAt S (.lst ds) (.lst vs)
  | dk {kvs : List (Key × PyData)} {ws : List (Key × V)} : Paired (fun (p : Key × PyData) (q : Key × V) => p.1 = q.1 ∧ Rp S q.2 p.2) kvs ws → ObAt S (.dk kvs) (.dK ws)
  | dt {kvs : List (List Key × PyData)} {ws : List (List Key × V)} : Paired (fun (p : List Key × PyData) (q : List Key × V) => p.1 = q.1 ∧ Rp S q.2 p.2) kvs ws → ObAt S (.dt kvs) (.dT ws)
  | mat {rows : List (List PyData)} {cs : List Addr} : cs.length = rows.length → ObAt S (.mat rows) (.lst (cs.map V.ref))
theorem ObAt.mono {S S' : Hp} (h : Same S S') {b : Ob} {o : HO} (r : ObAt S b o) : ObAt S' b o := by
  cases r with
  | lst r => exact .lst (r.mono h)
  | dk r => exact .dk (Paired.mapP r fun _ _ z => ⟨z.1, z.2.mono h⟩)
  | dt r => exact .dt (Paired.mapP r fun _ _ z => ⟨z.1, z.2.mono h⟩)
  | mat e => exact .mat e
/-- a slot: nothing known; a datum; a thing of its own; the draws; the script -/
inductive Sl where
  | no | sh (d : PyData) | ow (o : Ob) | dr | sc
abbrev Nv := List Sl

/-- the ground of a call: the draws' object, whether it lives, what was shared and what there was at the entry -/
structure Bs where
  A : Addr
  live : Bool
  S : Hp
  H : Hp
  C : Addr
  N : V
def DrAt (B : Bs) (H S : Hp) : G → Prop
  | none => B.live = false
  | some (ns, i) => B.live = true ∧ H B.A = some (.lst [B.N, .int i]) ∧ Rp S B.N (.list (ns.map PyData.int))
structure Fin (B : Bs) (H S : Hp) (g : G) : Prop where
  sub : Same S H
  keep : ∀ a o, B.H a = some o → (B.live = true → a ≠ B.A) → H a = some o
  base : Same B.S S
  new : ∀ a, S a ≠ none → B.S a ≠ none ∨ B.H a = none
  there : ∀ a, B.H a ≠ none → H a ≠ none
  no : B.live = true → S B.A = none
  dr : DrAt B H S g
theorem DrAt.live {B : Bs} {H S : Hp} : ∀ {g : G}, DrAt B H S g → B.live = true → H B.A ≠ none
  | none, h, hl => by rw [show B.live = false from h] at hl; cases hl
  | some (ns, i), h, _ => by obtain ⟨_, e, _⟩ := h; rw [e]; simp
theorem DrAt.mono {B : Bs} {H S H' S' : Hp} (hs : Same S S') (hA : B.live = true → H' B.A = H B.A) : ∀ {g : G}, DrAt B H S g → DrAt B H' S' g
  | none, h => h
  | some (ns, i), h => by obtain ⟨hl, e, r⟩ := h; exact ⟨hl, by rw [hA hl]; exact e, r.mono hs⟩
/-- growth: what stands stays, but the draws' object -/
structure Gr (B : Bs) (H S H' S' : Hp) : Prop where
  keep : ∀ a o, H a = some o → (B.live = true → a ≠ B.A) → H' a = some o
  base : Same S S'
  new : ∀ a, S' a ≠ none → S a ≠ none ∨ H a = none
  there : ∀ a, H a ≠ none → H' a ≠ none
theorem Gr.refl {B : Bs} {H S : Hp} : Gr B H S H S := ⟨fun _ _ h _ => h, Same.refl _, fun _ h => .inl h, fun _ h => h⟩
theorem Gr.trans {B : Bs} {H S H1 S1 H2 S2 : Hp} (a : Gr B H S H1 S1) (b : Gr B H1 S1 H2 S2) : Gr B H S H2 S2 :=
  ⟨fun c o h n => b.keep c o (a.keep c o h n) n, a.base.trans b.base, fun c h => by
    rcases b.new c h with z | z
    · exact a.new c z
    · refine .inr ?_
      cases e : H c with
      | none => rfl
      | some o => exact absurd z (a.there c (by rw [e]; simp)), fun c h => b.there c (a.there c h)⟩
/-- the rows of a list of lists that nobody else holds -/
structure Rws (B : Bs) (H S : Hp) (rows : List (List PyData)) (cs : List Addr) : Prop where
  nd : cs.Nodup
  at_ : ∀ (k : Nat) (c : Addr) (row : List PyData), cs[k]? = some c → rows[k]? = some row → S c = none ∧ (B.live = true → c ≠ B.A) ∧ B.H c = none ∧ ∃ vs, H c = some (.lst vs) ∧ Rps S vs row
structure Good (B : Bs) (σ : L2.St) (H S : Hp) (ρ : Nv) (g : G) : Prop extends Fin B H S g where
  len : σ.length = ρ.length
  sh : ∀ (i : Nat) (d : PyData), ρ[i]? = some (.sh d) → ∃ v, σ[i]? = some (some v) ∧ Rp S v d
  dw : ∀ (i : Nat), ρ[i]? = some .dr → σ[i]? = some (some (.ref B.A)) ∧ B.live = true
  sw : ∀ (i : Nat), ρ[i]? = some .sc → σ[i]? = some (some (.ref B.C))
  ow : ∀ (i : Nat) (b : Ob), ρ[i]? = some (.ow b) → ∃ a o, σ[i]? = some (some (.ref a)) ∧ S a = none ∧ (B.live = true → a ≠ B.A) ∧ B.H a = none ∧ H a = some o ∧ ObAt S b o
  ap : ∀ (i j : Nat) (b c : Ob) (a : Addr), ρ[i]? = some (.ow b) → ρ[j]? = some (.ow c) → σ[i]? = some (some (.ref a)) → σ[j]? = some (some (.ref a)) → i = j
  mx : ∀ (i : Nat) (rows : List (List PyData)) (a : Addr) (cs : List Addr), ρ[i]? = some (.ow (.mat rows)) → σ[i]? = some (some (.ref a)) → H a = some (.lst (cs.map V.ref)) → Rws B H S rows cs ∧
    (∀ (j : Nat) (b : Ob) (a' : Addr), ρ[j]? = some (.ow b) → σ[j]? = some (some (.ref a')) → a' ∉ cs) ∧
    (∀ (j : Nat) (rows' : List (List PyData)) (a' : Addr) (cs' : List Addr), j ≠ i → ρ[j]? = some (.ow (.mat rows')) → σ[j]? = some (some (.ref a')) → H a' = some (.lst (cs'.map V.ref)) → ∀ c ∈ cs, c ∉ cs')

theorem none_of {B : Bs} {H S H' S' : Hp} (e : Gr B H S H' S') {a : Addr} (h1 : H a ≠ none) (h2 : S a = none) : S' a = none := by
  cases q : S' a with
  | none => rfl
  | some o =>
    rcases e.new a (by rw [q]; simp) with z | z
    · exact absurd h2 z
    · exact absurd z h1
theorem none_back {B : Bs} {H S H' S' : Hp} (e : Gr B H S H' S') {a : Addr} (h : H' a = none) : H a = none := by
  cases q : H a with
  | none => rfl
  | some o => exact absurd h (e.there a (by rw [q]; simp))
theorem addr_of {σ : L2.St} {i : Nat} {a b : Addr} (h : σ[i]? = some (some (.ref a))) (k : σ[i]? = some (some (.ref b))) : a = b := by
  rw [h] at k
  injection k with k
  injection k with k
  injection k with k
theorem refs_inj : ∀ {cs ds : List Addr}, cs.map V.ref = ds.map V.ref → cs = ds
  | [], [], _ => rfl
  | [], _ :: _, h => by cases h
  | _ :: _, [], h => by cases h
  | c :: cs, d :: ds, h => by
    rw [List.map_cons, List.map_cons] at h
    injection h with h1 h2
    injection h1 with h1
    rw [h1, refs_inj h2]
theorem Rws.row {B : Bs} {H S : Hp} {rows : List (List PyData)} {cs : List Addr} (R : Rws B H S rows cs) (hl : cs.length = rows.length) {c : Addr} (h : c ∈ cs) : S c = none ∧ (B.live = true → c ≠ B.A) ∧ B.H c = none ∧ H c ≠ none := by
  obtain ⟨k, hk, rfl⟩ := List.getElem_of_mem h
  obtain ⟨h1, h2, h3, vs, h4, _⟩ := R.at_ k cs[k] (rows[k]'(by omega)) (List.getElem?_eq_getElem hk) (List.getElem?_eq_getElem (by omega))
  exact ⟨h1, h2, h3, by rw [h4]; simp⟩
/-- a change of the heap and of what is shared that leaves the rows as they are -/
theorem Rws.move {B : Bs} {H S H' S' : Hp} {rows : List (List PyData)} {cs : List Addr} (R : Rws B H S rows cs) (hs : Same S S') (h : ∀ c ∈ cs, H' c = H c) (n : ∀ c ∈ cs, S' c = none) : Rws B H' S' rows cs :=
  ⟨R.nd, fun k c row e1 e2 => by
    obtain ⟨h1, h2, h3, vs, h4, h5⟩ := R.at_ k c row e1 e2
    have hc := List.mem_of_getElem? e1
    exact ⟨n c hc, h2, h3, vs, by rw [h c hc]; exact h4, h5.mono hs⟩⟩
section
variable {B : Bs} {σ : L2.St} {H S H' S' H1 S1 : Hp} {ρ : Nv} {g g' g1 : G}
theorem Good.rows (I : Good B σ H S ρ g) {i : Nat} {rows : List (List PyData)} (h : ρ[i]? = some (.ow (.mat rows))) : ∃ a cs, σ[i]? = some (some (.ref a)) ∧ H a = some (.lst (cs.map V.ref)) ∧ cs.length = rows.length ∧ S a = none ∧ (B.live = true → a ≠ B.A) ∧ B.H a = none ∧ Rws B H S rows cs := by
  obtain ⟨a, o, h1, h2, h3, h4, h5, h6⟩ := I.ow i _ h
  cases h6 with
  | @mat _ cs hl => exact ⟨a, cs, h1, h5, hl, h2, h3, h4, (I.mx i rows a cs h h1 h5).1⟩
theorem Good.rowsAt (I : Good B σ H S ρ g) {i : Nat} {rows : List (List PyData)} {a : Addr} {cs : List Addr} (h : ρ[i]? = some (.ow (.mat rows))) (h1 : σ[i]? = some (some (.ref a))) (h2 : H a = some (.lst (cs.map V.ref))) : cs.length = rows.length := by
  obtain ⟨a', cs', k1, k2, k3, _⟩ := I.rows h
  have e := addr_of h1 k1
  subst e
  rw [h2] at k2
  injection k2 with k2
  injection k2 with k2
  rw [refs_inj k2]; exact k3
/-- the third part, carried over to a heap and a sharing that leave all own lists of lists as they are -/
theorem Good.mxMove {σ' : L2.St} {ρ' : Nv} (I : Good B σ H S ρ g) (hs : Same S S') (hr : ∀ (i : Nat) (b : Ob), ρ'[i]? = some (.ow b) → (∃ b0, ρ[i]? = some (.ow b0)) ∧ σ'[i]? = σ[i]?) (hm : ∀ (i : Nat) (rows : List (List PyData)), ρ'[i]? = some (.ow (.mat rows)) → ρ[i]? = some (.ow (.mat rows)))
    (hh : ∀ (i : Nat) (rows : List (List PyData)) (a : Addr), ρ'[i]? = some (.ow (.mat rows)) → σ[i]? = some (some (.ref a)) → H' a = H a) (hc : ∀ (i : Nat) (rows : List (List PyData)) (a : Addr) (cs : List Addr), ρ'[i]? = some (.ow (.mat rows)) → ρ[i]? = some (.ow (.mat rows)) → σ[i]? = some (some (.ref a)) → H a = some (.lst (cs.map V.ref)) → ∀ c ∈ cs, H' c = H c ∧ S' c = none)
    (i : Nat) (rows : List (List PyData)) (a : Addr) (cs : List Addr) (e1 : ρ'[i]? = some (.ow (.mat rows))) (e2 : σ'[i]? = some (some (.ref a))) (e3 : H' a = some (.lst (cs.map V.ref))) : Rws B H' S' rows cs ∧
    (∀ (j : Nat) (b : Ob) (a' : Addr), ρ'[j]? = some (.ow b) → σ'[j]? = some (some (.ref a')) → a' ∉ cs) ∧
    (∀ (j : Nat) (rows' : List (List PyData)) (a' : Addr) (cs' : List Addr), j ≠ i → ρ'[j]? = some (.ow (.mat rows')) → σ'[j]? = some (some (.ref a')) → H' a' = some (.lst (cs'.map V.ref)) → ∀ c ∈ cs, c ∉ cs') := by
  have f2 := (hr i _ e1).2
  have f1 := hm i _ e1
  rw [f2] at e2
  rw [hh i _ a e1 e2] at e3
  obtain ⟨R, A1, A2⟩ := I.mx i rows a cs f1 e2 e3
  refine ⟨R.move hs (fun c h => (hc i rows a cs e1 f1 e2 e3 c h).1) fun c h => (hc i rows a cs e1 f1 e2 e3 c h).2, fun j b a' k1 k2 => ?_, fun j rows' a' cs' hj k1 k2 k3 => ?_⟩
  · obtain ⟨⟨b0, l1⟩, l2⟩ := hr j b k1
    rw [l2] at k2
    exact A1 j b0 a' l1 k2
  · have l2 := (hr j _ k1).2
    rw [l2] at k2
    rw [hh j _ a' k1 k2] at k3
    exact A2 j rows' a' cs' hj (hm j _ k1) k2 k3
/-- where heap and sharing stay -/
theorem Good.mxSame {σ' : L2.St} {ρ' : Nv} (I : Good B σ H S ρ g) (hr : ∀ (i : Nat) (b : Ob), ρ'[i]? = some (.ow b) → ρ[i]? = some (.ow b) ∧ σ'[i]? = σ[i]?)
    (i : Nat) (rows : List (List PyData)) (a : Addr) (cs : List Addr) (e1 : ρ'[i]? = some (.ow (.mat rows))) (e2 : σ'[i]? = some (some (.ref a))) (e3 : H a = some (.lst (cs.map V.ref))) : Rws B H S rows cs ∧
    (∀ (j : Nat) (b : Ob) (a' : Addr), ρ'[j]? = some (.ow b) → σ'[j]? = some (some (.ref a')) → a' ∉ cs) ∧
    (∀ (j : Nat) (rows' : List (List PyData)) (a' : Addr) (cs' : List Addr), j ≠ i → ρ'[j]? = some (.ow (.mat rows')) → σ'[j]? = some (some (.ref a')) → H a' = some (.lst (cs'.map V.ref)) → ∀ c ∈ cs, c ∉ cs') :=
  I.mxMove (Same.refl _) (fun i b h => ⟨⟨b, (hr i b h).1⟩, (hr i b h).2⟩) (fun i rows h => (hr i _ h).1) (fun _ _ _ _ _ => rfl) (fun i rows a cs _ h1 h2 h3 c hc => ⟨rfl, ((I.mx i rows a cs h1 h2 h3).1.row (I.rowsAt h1 h2 h3) hc).1⟩) i rows a cs e1 e2 e3
/-- behind growth -/
theorem Good.grow (I : Good B σ H S ρ g) (e : Gr B H S H' S') (sub : Same S' H') (dr : DrAt B H' S' g') : Good B σ H' S' ρ g' := by
  refine ⟨⟨sub, fun a o h n => e.keep a o (I.keep a o h n) n, I.base.trans e.base, fun a h => ?_, fun a h => e.there a (I.there a h), fun hl => none_of e (I.dr.live hl) (I.no hl), dr⟩, I.len, fun i d h => ?_, I.dw, I.sw, fun i b h => ?_, I.ap, ?_⟩
  · rcases e.new a h with z | z
    · exact I.new a z
    · refine .inr ?_
      cases q : B.H a with
      | none => rfl
      | some o => exact absurd z (I.there a (by rw [q]; simp))
  · obtain ⟨v, h1, h2⟩ := I.sh i d h
    exact ⟨v, h1, h2.mono e.base⟩
  · obtain ⟨a, o, h1, h2, h3, h4, h5, h6⟩ := I.ow i b h
    exact ⟨a, o, h1, none_of e (by rw [h5]; simp) h2, h3, h4, e.keep a o h5 h3, h6.mono e.base⟩
  · refine I.mxMove e.base (fun i b h => ⟨⟨b, h⟩, rfl⟩) (fun i rows h => h) (fun i rows a h1 h2 => ?_) fun i rows a cs _ h1 h2 h3 c hc => ?_
    · obtain ⟨a', o, k1, k2, k3, k4, k5, _⟩ := I.ow i _ h1
      have q := addr_of h2 k1
      subst q
      rw [k5]; exact e.keep a o k5 k3
    · obtain ⟨R, _⟩ := I.mx i rows a cs h1 h2 h3
      obtain ⟨k1, k2, k3, k4⟩ := R.row (I.rowsAt h1 h2 h3) hc
      refine ⟨?_, none_of e k4 k1⟩
      cases q : H c with
      | none => exact absurd q k4
      | some o => exact e.keep c o q k2
theorem Good.stay (I : Good B σ H S ρ g) {p : Addr} (hp : H p = none) : S p = none := by
  cases q : S p with
  | none => rfl
  | some u => rw [I.sub _ _ q] at hp; cases hp
theorem Good.neA (I : Good B σ H S ρ g) {p : Addr} (hp : H p = none) : B.live = true → B.A ≠ p := fun hl z => I.dr.live hl (by rw [z]; exact hp)
/-- a new shared object -/
theorem Good.alloc (I : Good B σ H S ρ g) {p : Addr} {o : HO} (hp : H p = none) : Good B σ (upd H p o) (upd S p o) ρ g ∧ Gr B H S (upd H p o) (upd S p o) := by
  have hs : S p = none := I.stay hp
  have e : Gr B H S (upd H p o) (upd S p o) := by
    refine ⟨fun a u h _ => by rw [upd_ne (ne_of_none h hp)]; exact h, fun a u h => by rw [upd_ne (ne_of_none h hs)]; exact h, fun a h => ?_, fun a h => ?_⟩
    · by_cases ha : a = p
      · subst ha; exact .inr hp
      · rw [upd_ne ha] at h; exact .inl h
    · by_cases ha : a = p
      · subst ha; rw [upd_same]; simp
      · rw [upd_ne ha]; exact h
  refine ⟨I.grow e (fun a u h => ?_) (I.dr.mono e.base fun hl => upd_ne (I.neA hp hl)), e⟩
  by_cases ha : a = p
  · subst ha; rw [upd_same] at h ⊢; exact h
  · rw [upd_ne ha] at h ⊢; exact I.sub _ _ h
/-- a new object that is not shared -/
theorem Good.allocO (I : Good B σ H S ρ g) {p : Addr} {o : HO} (hp : H p = none) : Good B σ (upd H p o) S ρ g ∧ Gr B H S (upd H p o) S := by
  have e : Gr B H S (upd H p o) S := by
    refine ⟨fun a u h _ => by rw [upd_ne (ne_of_none h hp)]; exact h, fun a u h => h, fun a h => .inl h, fun a h => ?_⟩
    by_cases ha : a = p
    · subst ha; rw [upd_same]; simp
    · rw [upd_ne ha]; exact h
  exact ⟨I.grow e (fun a u h => by rw [upd_ne (ne_of_none (I.sub _ _ h) hp)]; exact I.sub _ _ h) (I.dr.mono e.base fun hl => upd_ne (I.neA hp hl)), e⟩
/-- a thing that nobody else holds becomes shared -/
theorem Good.share (I : Good B σ H S ρ g) (I1 : Good B σ H1 S1 ρ g1) (e : Gr B H S H1 S1) {a : Addr} {o : HO} (n1 : S1 a = none) (n2 : H a = none) (ho : H1 a = some o) : Good B σ H1 (upd S1 a o) ρ g1 ∧ Gr B H S H1 (upd S1 a o) := by
  have sm : Same S1 (upd S1 a o) := fun c u q => by rw [upd_ne (ne_of_none q n1)]; exact q
  have na : B.live = true → B.A ≠ a := I.neA n2
  refine ⟨⟨⟨fun c u q => ?_, I1.keep, I1.base.trans sm, fun c hc => ?_, I1.there, fun hl => by rw [upd_ne (na hl)]; exact I1.no hl, I1.dr.mono sm fun _ => rfl⟩, I1.len, fun i d h => ?_, I1.dw, I1.sw, fun i b h => ?_, I1.ap, ?_⟩, ⟨e.keep, e.base.trans sm, fun c hc => ?_, e.there⟩⟩
  · by_cases hca : c = a
    · subst hca; rw [upd_same] at q; rw [← q]; exact ho
    · rw [upd_ne hca] at q; exact I1.sub _ _ q
  · by_cases hca : c = a
    · subst hca
      refine .inr ?_
      cases q : B.H c with
      | none => rfl
      | some u => exact absurd n2 (I.there c (by rw [q]; simp))
    · rw [upd_ne hca] at hc; exact I1.new c hc
  · obtain ⟨v, h1, h2⟩ := I1.sh i d h
    exact ⟨v, h1, h2.mono sm⟩
  · obtain ⟨c, u, h1, h2, h3, h4, h5, h6⟩ := I1.ow i b h
    obtain ⟨c', u', k1, _, _, _, k5, _⟩ := I.ow i b h
    have ec : c' = c := by
      rw [h1] at k1
      injection k1 with k1
      injection k1 with k1
      injection k1 with k1
      exact k1.symm
    subst ec
    have hca : c' ≠ a := fun z => by rw [z, n2] at k5; cases k5
    exact ⟨c', u, h1, by rw [upd_ne hca]; exact h2, h3, h4, h5, h6.mono sm⟩
  · refine I1.mxMove sm (fun i b h => ⟨⟨b, h⟩, rfl⟩) (fun i rows h => h) (fun i b c h1 h2 => rfl) fun i rows c cs _ h1 h2 h3 x hx => ⟨rfl, ?_⟩
    obtain ⟨R, _⟩ := I1.mx i rows c cs h1 h2 h3
    obtain ⟨k1, _⟩ := R.row (I1.rowsAt h1 h2 h3) hx
    have hxa : x ≠ a := fun z => by
      subst z
      obtain ⟨a0, o0, l1, _, l3, _, l5, _⟩ := I.ow i _ h1
      have q := addr_of h2 l1
      subst q
      have l6 := e.keep c o0 l5 l3
      rw [h3] at l6
      rw [← l6] at l5
      obtain ⟨R0, _⟩ := I.mx i rows c cs h1 h2 l5
      exact (R0.row (I.rowsAt h1 h2 l5) hx).2.2.2 n2
    rw [upd_ne hxa]; exact k1
  · by_cases hca : c = a
    · subst hca; exact .inr n2
    · rw [upd_ne hca] at hc; exact e.new c hc
end

/-! ### the readings by data -/
abbrev Ex := Nv → G → R PyData
abbrev Te := Nv → G → R Bool
abbrev Ar := Nv → G → R (List PyData)
abbrev Ow := Nv → G → R Ob
section
variable (cls : Nat → Value) (W : WX)
def EO (B : Bs) (σ : L2.St) (H S : Hp) (ρ : Nv) (Q : VK) : R PyData → Prop
  | .ok d g' => ∀ v H' S', Good B σ H' S' ρ g' → Gr B H S H' S' → Rp S' v d → Q v H'
  | .ex n g' => ∀ H' S', Good B σ H' S' ρ g' → Gr B H S H' S' → W (cls n) none σ H'
  | .bad => False
def TO (B : Bs) (σ : L2.St) (H S : Hp) (ρ : Nv) (Q : Bool → Hp → Prop) : R Bool → Prop
  | .ok b g' => ∀ H' S', Good B σ H' S' ρ g' → Gr B H S H' S' → Q b H'
  | .ex n g' => ∀ H' S', Good B σ H' S' ρ g' → Gr B H S H' S' → W (cls n) none σ H'
  | .bad => False
def AO (B : Bs) (σ : L2.St) (H S : Hp) (ρ : Nv) (Q : List V → Hp → Prop) : R (List PyData) → Prop
  | .ok ds g' => ∀ vs H' S', Good B σ H' S' ρ g' → Gr B H S H' S' → Rps S' vs ds → Q vs H'
  | .ex n g' => ∀ H' S', Good B σ H' S' ρ g' → Gr B H S H' S' → W (cls n) none σ H'
  | .bad => False
/-- a new thing that nobody else holds -/
def OO (B : Bs) (σ : L2.St) (H S : Hp) (ρ : Nv) (Q : VK) : R Ob → Prop
  | .ok b g' => ∀ a o H' S', Good B σ H' S' ρ g' → Gr B H S H' S' → S' a = none → H a = none → H' a = some o → ObAt S' b o → Q (.ref a) H'
  | .ex n g' => ∀ H' S', Good B σ H' S' ρ g' → Gr B H S H' S' → W (cls n) none σ H'
  | .bad => False
def tE (f : Ex) : TE := fun σ H Q => ∃ B S ρ g, Good B σ H S ρ g ∧ EO cls W B σ H S ρ Q (f ρ g)
def tT (f : Te) : TT := fun σ H Q => ∃ B S ρ g, Good B σ H S ρ g ∧ TO cls W B σ H S ρ Q (f ρ g)
def tA (f : Ar) : TA := fun σ H Q => ∃ B S ρ g, Good B σ H S ρ g ∧ AO cls W B σ H S ρ Q (f ρ g)
/-- the first argument is the draws, in slot i -/
def tAG (i : Nat) (f : Ar) : TA := fun σ H Q => ∃ B S ρ g, Good B σ H S ρ g ∧ ρ[i]? = some .dr ∧ AO cls W B σ H S ρ (fun vs H' => Q (.ref B.A :: vs) H') (f ρ g)
def tO (f : Ow) : TE := fun σ H Q => ∃ B S ρ g, Good B σ H S ρ g ∧ OO cls W B σ H S ρ Q (f ρ g)
end

section
variable {X : Cx}
theorem PE_imp {e : Expr} {t t' : TE} (h : PE X e t) (hi : ∀ σ H Q, t' σ H Q → t σ H Q) : PE X e t' := ⟨fun pins s σ H Q I q => h.run pins s σ H Q I (hi _ _ _ q)⟩
theorem PT_imp {e : Expr} {t t' : TT} (h : PT X e t) (hi : ∀ σ H Q, t' σ H Q → t σ H Q) : PT X e t' := ⟨fun pins s σ H Q I q => h.run pins s σ H Q I (hi _ _ _ q)⟩
theorem PW_imp {e : Expr} {t t' : TT} (h : PW X e t) (hi : ∀ σ H Q, t' σ H Q → t σ H Q) : PW X e t' := ⟨fun wh pins s σ H Q I q => h.run wh pins s σ H Q I (hi _ _ _ q)⟩
theorem PA_imp {es : List Expr} {t t' : TA} (h : PA X es t) (hi : ∀ σ H Q, t' σ H Q → t σ H Q) : PA X es t' := ⟨fun pos pins s σ H Q I q => h.run pos pins s σ H Q I (hi _ _ _ q)⟩
theorem PS_imp {e : Stmt} {t t' : TS} (h : PS X e t) (hi : ∀ D σ H, t' D σ H → t D σ H) : PS X e t' := ⟨fun pins s σ H D I q => h.run pins s σ H D I (hi _ _ _ q)⟩
theorem PSs_imp {e : List Stmt} {t t' : TS} (h : PSs X e t) (hi : ∀ D σ H, t' D σ H → t D σ H) : PSs X e t' := ⟨fun pins s σ H D I q => h.run pins s σ H D I (hi _ _ _ q)⟩
end

/-! ### the mirrors of expressions -/
@[simp] def constD (d : PyData) : Ex := fun _ g => .ok d g
@[simp] def varD (i : Nat) : Ex := fun ρ g => match ρ[i]? with
  | some (.sh d) => .ok d g
  | _ => .bad
@[simp] def opD (op : PyData → PyData → Option PyData) (a b : Ex) : Ex := fun ρ g => (a ρ g).bind fun x g1 => (b ρ g1).bind fun y g2 => ofO (op x y) g2
@[simp] def unD (op : PyData → Option PyData) (a : Ex) : Ex := fun ρ g => (a ρ g).bind fun x g1 => ofO (op x) g1
@[simp] def nilD : Ar := fun _ g => .ok [] g
@[simp] def consD (a : Ex) (r : Ar) : Ar := fun ρ g => (a ρ g).bind fun x g1 => (r ρ g1).bind fun xs g2 => .ok (x :: xs) g2

section
variable {X : Cx} {cls : Nat → Value} {W : WX} {pos : Pos}

/-- one part behind another -/
theorem EO_bind {B : Bs} {σ : L2.St} {H S : Hp} {ρ : Nv} {Q : VK} {α : Type} {r : R α} {f : α → G → R PyData} (P : α → Hp → Hp → G → Prop)
    (h : EO cls W B σ H S ρ Q (r.bind f)) : match r with
    | .ok a g => EO cls W B σ H S ρ Q (f a g)
    | .ex n g => ∀ H' S', Good B σ H' S' ρ g → Gr B H S H' S' → W (cls n) none σ H'
    | .bad => False := by
  cases r with
  | ok a g => exact h
  | ex n g => exact h
  | bad => exact h

theorem EO_gr {B : Bs} {σ : L2.St} {H S H1 S1 : Hp} {ρ : Nv} {Q : VK} {r : R PyData} (e : Gr B H S H1 S1) (h : EO cls W B σ H S ρ Q r) : EO cls W B σ H1 S1 ρ Q r := by
  cases r with
  | ok a g => exact fun v H' S' I u d => h v H' S' I (e.trans u) d
  | ex n g => exact fun H' S' I u => h H' S' I (e.trans u)
  | bad => exact h
theorem TO_gr {B : Bs} {σ : L2.St} {H S H1 S1 : Hp} {ρ : Nv} {Q : Bool → Hp → Prop} {r : R Bool} (e : Gr B H S H1 S1) (h : TO cls W B σ H S ρ Q r) : TO cls W B σ H1 S1 ρ Q r := by
  cases r with
  | ok a g => exact fun H' S' I u => h H' S' I (e.trans u)
  | ex n g => exact fun H' S' I u => h H' S' I (e.trans u)
  | bad => exact h
theorem AO_gr {B : Bs} {σ : L2.St} {H S H1 S1 : Hp} {ρ : Nv} {Q : List V → Hp → Prop} {r : R (List PyData)} (e : Gr B H S H1 S1) (h : AO cls W B σ H S ρ Q r) : AO cls W B σ H1 S1 ρ Q r := by
  cases r with
  | ok a g => exact fun v H' S' I u d => h v H' S' I (e.trans u) d
  | ex n g => exact fun H' S' I u => h H' S' I (e.trans u)
  | bad => exact h
theorem OO_gr {B : Bs} {σ : L2.St} {H S H1 S1 : Hp} {ρ : Nv} {Q : VK} {r : R Ob} (e : Gr B H S H1 S1) (h : OO cls W B σ H S ρ Q r) : OO cls W B σ H1 S1 ρ Q r := by
  cases r with
  | ok a g => exact fun v o H' S' I u n1 n2 d f => h v o H' S' I (e.trans u) n1 (none_back e n2) d f
  | ex n g => exact fun H' S' I u => h H' S' I (e.trans u)
  | bad => exact h

theorem pd_const {e : Expr} {v : V} {d : PyData} (he : PE X e (tC v)) (r : ∀ S, Rp S v d) : PE X e (tE cls W (constD d)) :=
  PE_imp he fun σ H Q ⟨B, S, ρ, g, I, h⟩ => h v H S I .refl (r S)
theorem pd_int {i j pos} : PE X (.Constant (.int i) j pos) (tE cls W (constD (.int i))) := pd_const pe_int fun _ => .int i
theorem pd_bl {i j pos} : PE X (.Constant (.bool i) j pos) (tE cls W (constD (.bool i))) := pd_const pe_bl fun _ => .bl i
theorem pd_non {j pos} : PE X (.Constant .none j pos) (tE cls W (constD .none)) := pd_const pe_non fun _ => .non
theorem pd_str {x j pos} : PE X (.Constant (.str x) j pos) (tE cls W (constD (.str x))) := pd_const pe_str fun _ => .str x
theorem pd_globI {x : Str} {i : Int} (hm : ∃ t, X.mg x = some (.int i t)) (hg : Gl X x := by rfl) (hd : (x == ("__debug__" : Str)) = false := by decide) : PE X (.Name x pos) (tE cls W (constD (.int i))) := by
  obtain ⟨t, hm⟩ := hm
  exact pd_const (v := .int i) (pe_glob hg hm ⟨t, rfl⟩ hd) fun _ => .int i
theorem pd_var (i : Nat) {x : Str} (hN : X.N[i]? = some x := by rfl) (hv : Vis X.env.scope x := by first | exact Or.inl rfl | exact Or.inr (Or.inl rfl) | exact Or.inr (Or.inr rfl)) (hd : (x == ("__debug__" : Str)) = false := by decide)
    (hcd : (x == ("__classdict__" : Str)) = false := by decide) : PE X (.Name x pos) (tE cls W (varD i)) :=
  PE_imp (pe_var hN hv hd hcd) fun σ H Q ⟨B, S, ρ, g, I, h⟩ => by
    unfold varD at h
    cases e : ρ[i]? with
    | none => rw [e] at h; exact False.elim h
    | some z =>
      rw [e] at h
      cases z with
      | sh d =>
        obtain ⟨v, h1, h2⟩ := I.sh i d e
        exact ⟨v, h1, h v H S I .refl h2⟩
      | no => exact False.elim h
      | ow _ => exact False.elim h
      | dr => exact False.elim h
      | sc => exact False.elim h

/-- what an operator's rule must say of data -/
def Spec2 (r : R2) (op : PyData → PyData → Option PyData) : Prop := ∀ (B : Bs) (σ : L2.St) (H S : Hp) (ρ : Nv) (g : G) (x y d : PyData) (v u : V) (Q : VK), op x y = some d → Good B σ H S ρ g → Rp S v x → Rp S u y →
  (∀ w H' S', Good B σ H' S' ρ g → Gr B H S H' S' → Rp S' w d → Q w H') → r v u H Q
theorem op_of {r : R2} {op : PyData → PyData → Option PyData} {fa fb : Ex} (sp : Spec2 r op) (σ : L2.St) (H : Hp) (Q : VK) (h : tE cls W (opD op fa fb) σ H Q) : tOp r (tE cls W fa) (tE cls W fb) σ H Q := by
  obtain ⟨B, S, ρ, g, I, h⟩ := h
  unfold opD at h
  refine ⟨B, S, ρ, g, I, ?_⟩
  cases ea : fa ρ g with
  | bad => rw [ea] at h; exact h
  | ex n g1 => rw [ea] at h; exact h
  | ok x g1 =>
    rw [ea] at h
    intro v H1 S1 I1 e1 r1
    refine ⟨B, S1, ρ, g1, I1, ?_⟩
    have h' := EO_gr e1 h
    simp only [R.bind_ok] at h'
    cases eb : fb ρ g1 with
    | bad => rw [eb] at h'; exact h'
    | ex n g2 => rw [eb] at h'; exact h'
    | ok y g2 =>
      rw [eb] at h'
      simp only [R.bind_ok] at h'
      intro u H2 S2 I2 e2 r2
      have h2 := EO_gr e2 h'
      cases eo : op x y with
      | none => rw [eo] at h2; exact False.elim h2
      | some d =>
        rw [eo] at h2
        exact sp B σ H2 S2 ρ g2 x y d v u Q eo I2 (r1.mono e2.base) r2 h2
theorem pd_bin {a b : Expr} {op : Operator} {r : R2} {o : PyData → PyData → Option PyData} {fa fb : Ex} (ho : OpR X (binaryOp op) r) (sp : Spec2 r o) (ha : PE X a (tE cls W fa)) (hb : PE X b (tE cls W fb)) :
    PE X (.BinOp a op b pos) (tE cls W (opD o fa fb)) := PE_imp (pe_op ho ha hb) (op_of sp)
theorem pd_cmpO {a b : Expr} {op : CmpOp} {r : R2} {o : PyData → PyData → Option PyData} {fa fb : Ex} (ho : OpR X (compareOp op) r) (sp : Spec2 r o) (ha : PE X a (tE cls W fa)) (hb : PE X b (tE cls W fb)) (hm : behindInMarks op b = false) :
    PE X (.Compare a [op] [b] pos) (tE cls W (opD o fa fb)) := PE_imp (pe_cmpR ho ha hb hm) (op_of sp)
/-- a value's truth -/
@[simp] def truD : PyData → Option Bool
  | .none => some false
  | .bool b => some b
  | .int i => some (i != 0)
  | .list ds => some (!ds.isEmpty)
  | .tuple ds => some (!ds.isEmpty)
  | _ => none
@[simp] def boolD (f : Ex) : Te := fun ρ g => (f ρ g).bind fun d g1 => match d with
  | .bool b => .ok b g1
  | _ => .bad
@[simp] def truthD (f : Ex) : Te := fun ρ g => (f ρ g).bind fun d g1 => ofO (truD d) g1
theorem boolD_of {f : Ex} (σ : L2.St) (H : Hp) (Q : Bool → Hp → Prop) (h : tT cls W (boolD f) σ H Q) : tE cls W f σ H (fun x H' => ∃ k, x = .bl k ∧ Q k H') := by
  obtain ⟨B, S, ρ, g, I, h⟩ := h
  unfold boolD at h
  refine ⟨B, S, ρ, g, I, ?_⟩
  cases ea : f ρ g with
  | bad => rw [ea] at h; exact h
  | ex n g1 => rw [ea] at h; exact h
  | ok x g1 =>
    rw [ea] at h
    intro v H1 S1 I1 e1 r1
    cases r1 with
    | bl b => exact ⟨b, rfl, h H1 S1 I1 e1⟩
    | non => exact False.elim h
    | int i => exact False.elim h
    | str i => exact False.elim h
    | lst _ _ => exact False.elim h
    | tup _ _ => exact False.elim h
theorem ptd_cmpO {a b : Expr} {op : CmpOp} {r : R2} {o : PyData → PyData → Option PyData} {fa fb : Ex} (ho : OpR X (compareOp op) r) (sp : Spec2 r o) (ha : PE X a (tE cls W fa)) (hb : PE X b (tE cls W fb)) (hm : behindInMarks op b = false) :
    PT X (.Compare a [op] [b] pos) (tT cls W (boolD (opD o fa fb))) := PT_imp (pt_cmpR ho ha hb hm) fun σ H Q h => op_of sp σ H _ (boolD_of σ H Q h)
theorem Rps.isEmpty {S : Hp} {vs : List V} {ds : List PyData} (r : Rps S vs ds) : vs.isEmpty = ds.isEmpty := by
  cases r <;> rfl
theorem truV_of {K : PySem.W.Frag} {S H : Hp} {v : V} {d : PyData} {k : Bool} (r : Rp S v d) (s : Same S H) (e : truD d = some k) : TruV K v H k := by
  cases r with
  | non => exact (Option.some.inj e).symm
  | bl b => exact (Option.some.inj e).symm
  | int i => exact (Option.some.inj e).symm
  | str x => cases e
  | lst h q => exact .inl ⟨_, .of (s _ _ h), by rw [q.isEmpty]; exact (Option.some.inj e).symm⟩
  | tup h q => exact .inr (.inl ⟨_, .of (s _ _ h), by rw [q.isEmpty]; exact (Option.some.inj e).symm⟩)
theorem truthD_of {K : PySem.W.Frag} {f : Ex} (σ : L2.St) (H : Hp) (Q : Bool → Hp → Prop) (h : tT cls W (truthD f) σ H Q) : tE cls W f σ H (fun x H' => ∃ k, TruV K x H' k ∧ Q k H') := by
  obtain ⟨B, S, ρ, g, I, h⟩ := h
  unfold truthD at h
  refine ⟨B, S, ρ, g, I, ?_⟩
  cases ea : f ρ g with
  | bad => rw [ea] at h; exact h
  | ex n g1 => rw [ea] at h; exact h
  | ok x g1 =>
    rw [ea] at h
    intro v H1 S1 I1 e1 r1
    simp only [R.bind_ok] at h
    cases et : truD x with
    | none => rw [et] at h; exact False.elim h
    | some b =>
      rw [et] at h
      exact ⟨b, truV_of r1 I1.sub et, h H1 S1 I1 e1⟩
theorem ptd_val {a : Expr} {f : Ex} (ha : PE X a (tE cls W f)) (he : ∀ whole, isTrue a X.env whole = (do let v ← whole; standAt a.pos; holding [v] (truthy v)) := by intro _; rfl) : PT X a (tT cls W (truthD f)) :=
  PT_imp (pt_truth ha he) fun σ H Q h => truthD_of σ H Q h

/-! ### and, or, not -/
@[simp] def andT (a b : Te) : Te := fun ρ g => (a ρ g).bind fun x g1 => if x = true then b ρ g1 else .ok false g1
@[simp] def orT (a b : Te) : Te := fun ρ g => (a ρ g).bind fun x g1 => if x = true then .ok true g1 else b ρ g1
@[simp] def notT (a : Te) : Te := fun ρ g => (a ρ g).bind fun x g1 => .ok (!x) g1
variable {a b : Expr} {rest : List Expr} {fa fb : Te}
theorem pwd_and1 (ha : PT X a (tT cls W fa)) : PW X (.BoolOp .And [a] pos) (tT cls W fa) := pw_and1 ha
theorem pwd_or1 (ha : PT X a (tT cls W fa)) : PW X (.BoolOp .Or [a] pos) (tT cls W fa) := pw_or1 ha
theorem pwd_and (ha : PT X a (tT cls W fa)) (hb : PW X (.BoolOp .And (b :: rest) pos) (tT cls W fb)) : PW X (.BoolOp .And (a :: b :: rest) pos) (tT cls W (andT fa fb)) :=
  PW_imp (pw_and ha hb) fun σ H Q ⟨B, S, ρ, g, I, h⟩ => by
    unfold andT at h
    refine ⟨B, S, ρ, g, I, ?_⟩
    cases ea : fa ρ g with
    | bad => rw [ea] at h; exact h
    | ex n g1 => rw [ea] at h; exact h
    | ok x g1 =>
      rw [ea] at h
      intro H1 S1 I1 e1
      cases x with
      | true => exact ⟨B, S1, ρ, g1, I1, TO_gr e1 h⟩
      | false => exact h H1 S1 I1 e1
theorem pwd_or (ha : PT X a (tT cls W fa)) (hb : PW X (.BoolOp .Or (b :: rest) pos) (tT cls W fb)) : PW X (.BoolOp .Or (a :: b :: rest) pos) (tT cls W (orT fa fb)) :=
  PW_imp (pw_or ha hb) fun σ H Q ⟨B, S, ρ, g, I, h⟩ => by
    unfold orT at h
    refine ⟨B, S, ρ, g, I, ?_⟩
    cases ea : fa ρ g with
    | bad => rw [ea] at h; exact h
    | ex n g1 => rw [ea] at h; exact h
    | ok x g1 =>
      rw [ea] at h
      intro H1 S1 I1 e1
      cases x with
      | false => exact ⟨B, S1, ρ, g1, I1, TO_gr e1 h⟩
      | true => exact h H1 S1 I1 e1
theorem ptd_not (ha : PT X a (tT cls W fa)) : PT X (.UnaryOp .Not a pos) (tT cls W (notT fa)) :=
  PT_imp (pt_not ha) fun σ H Q ⟨B, S, ρ, g, I, h⟩ => by
    unfold notT at h
    refine ⟨B, S, ρ, g, I, ?_⟩
    cases ea : fa ρ g with
    | bad => rw [ea] at h; exact h
    | ex n g1 => rw [ea] at h; exact h
    | ok x g1 => rw [ea] at h; exact h
/-- as values -/
@[simp] def andV (a b : Ex) : Ex := fun ρ g => (a ρ g).bind fun x g1 => (ofO (truD x) g1).bind fun k g2 => if k = true then b ρ g2 else .ok x g2
@[simp] def orV (a b : Ex) : Ex := fun ρ g => (a ρ g).bind fun x g1 => (ofO (truD x) g1).bind fun k g2 => if k = true then .ok x g2 else b ρ g2
@[simp] def notV (a : Ex) : Ex := fun ρ g => (a ρ g).bind fun x g1 => (ofO (truD x) g1).bind fun k g2 => .ok (.bool (!k)) g2
variable {va vb : Ex}
theorem pd_one {op} (h : PE X a (tE cls W va)) : PE X (.BoolOp op [a] pos) (tE cls W va) := pe_one h
theorem pd_and (ha : PE X a (tE cls W va)) (hb : PE X (.BoolOp .And (b :: rest) pos) (tE cls W vb)) : PE X (.BoolOp .And (a :: b :: rest) pos) (tE cls W (andV va vb)) :=
  PE_imp (pe_andT ha hb) fun σ H Q ⟨B, S, ρ, g, I, h⟩ => by
    unfold andV at h
    refine ⟨B, S, ρ, g, I, ?_⟩
    cases ea : va ρ g with
    | bad => rw [ea] at h; exact h
    | ex n g1 => rw [ea] at h; exact h
    | ok x g1 =>
      rw [ea] at h
      intro v H1 S1 I1 e1 r1
      simp only [R.bind_ok] at h
      cases et : truD x with
      | none => rw [et] at h; exact False.elim h
      | some k =>
        rw [et] at h
        refine ⟨k, truV_of r1 I1.sub et, ?_⟩
        cases k with
        | true => exact ⟨B, S1, ρ, g1, I1, EO_gr e1 h⟩
        | false => exact h v H1 S1 I1 e1 r1
theorem pd_or (ha : PE X a (tE cls W va)) (hb : PE X (.BoolOp .Or (b :: rest) pos) (tE cls W vb)) : PE X (.BoolOp .Or (a :: b :: rest) pos) (tE cls W (orV va vb)) :=
  PE_imp (pe_orT ha hb) fun σ H Q ⟨B, S, ρ, g, I, h⟩ => by
    unfold orV at h
    refine ⟨B, S, ρ, g, I, ?_⟩
    cases ea : va ρ g with
    | bad => rw [ea] at h; exact h
    | ex n g1 => rw [ea] at h; exact h
    | ok x g1 =>
      rw [ea] at h
      intro v H1 S1 I1 e1 r1
      simp only [R.bind_ok] at h
      cases et : truD x with
      | none => rw [et] at h; exact False.elim h
      | some k =>
        rw [et] at h
        refine ⟨k, truV_of r1 I1.sub et, ?_⟩
        cases k with
        | false => exact ⟨B, S1, ρ, g1, I1, EO_gr e1 h⟩
        | true => exact h v H1 S1 I1 e1 r1
theorem pd_not (ha : PE X a (tE cls W va)) : PE X (.UnaryOp .Not a pos) (tE cls W (notV va)) :=
  PE_imp (pe_notT ha) fun σ H Q ⟨B, S, ρ, g, I, h⟩ => by
    unfold notV at h
    refine ⟨B, S, ρ, g, I, ?_⟩
    cases ea : va ρ g with
    | bad => rw [ea] at h; exact h
    | ex n g1 => rw [ea] at h; exact h
    | ok x g1 =>
      rw [ea] at h
      intro v H1 S1 I1 e1 r1
      simp only [R.bind_ok] at h
      cases et : truD x with
      | none => rw [et] at h; exact False.elim h
      | some k =>
        rw [et] at h
        exact ⟨k, truV_of r1 I1.sub et, h _ H1 S1 I1 e1 (.bl _)⟩
@[simp] def ifD (t : Te) (a b : Ex) : Ex := fun ρ g => (t ρ g).bind fun k g1 => if k = true then a ρ g1 else b ρ g1
theorem pd_if {c : Expr} (hc : PT X c (tT cls W fa)) (ha : PE X a (tE cls W va)) (hb : PE X b (tE cls W vb)) : PE X (.IfExp c a b pos) (tE cls W (ifD fa va vb)) :=
  PE_imp (pe_ifExp hc ha hb) fun σ H Q ⟨B, S, ρ, g, I, h⟩ => by
    unfold ifD at h
    refine ⟨B, S, ρ, g, I, ?_⟩
    cases ea : fa ρ g with
    | bad => rw [ea] at h; exact h
    | ex n g1 => rw [ea] at h; exact h
    | ok k g1 =>
      rw [ea] at h
      intro H1 S1 I1 e1
      cases k with
      | true => exact ⟨B, S1, ρ, g1, I1, EO_gr e1 h⟩
      | false => exact ⟨B, S1, ρ, g1, I1, EO_gr e1 h⟩

/-! ### argument lists, displays -/
variable {es : List Expr} {e : Expr} {ra : Ar}
theorem pad_nil : PA X [] (tA cls W nilD) := PA_imp pa_nil fun σ H Q ⟨B, S, ρ, g, I, h⟩ => h [] H S I .refl .nil
theorem consD_of (σ : L2.St) (H : Hp) (Q : List V → Hp → Prop) (h : tA cls W (consD va ra) σ H Q) : tCons (tE cls W va) (tA cls W ra) σ H Q := by
  obtain ⟨B, S, ρ, g, I, h⟩ := h
  unfold consD at h
  refine ⟨B, S, ρ, g, I, ?_⟩
  cases ea : va ρ g with
  | bad => rw [ea] at h; exact h
  | ex n g1 => rw [ea] at h; exact h
  | ok x g1 =>
    rw [ea] at h
    intro v H1 S1 I1 e1 r1
    refine ⟨B, S1, ρ, g1, I1, ?_⟩
    have h' := AO_gr e1 h
    simp only [R.bind_ok] at h'
    cases eb : ra ρ g1 with
    | bad => rw [eb] at h'; exact h'
    | ex n g2 => rw [eb] at h'; exact h'
    | ok y g2 =>
      rw [eb] at h'
      intro u H2 S2 I2 e2 r2
      exact h' (v :: u) H2 S2 I2 e2 (.cons (r1.mono e2.base) r2)
theorem pad_cons (ha : PE X e (tE cls W va)) (hr : PA X es (tA cls W ra)) (hs : starEach (e :: es) X.env = (false, eval e X.env) :: starEach es X.env := by rfl) : PA X (e :: es) (tA cls W (consD va ra)) :=
  PA_imp (pa_cons ha hr hs) consD_of
@[simp] def tupD (r : Ar) : Ex := fun ρ g => (r ρ g).bind fun ds g1 => if ds.length ≤ 1000 then .ok (.tuple ds) g1 else .bad
theorem line1000 {n : Nat} (h : n ≤ 1000) : n ≤ sizeLine := Nat.le_of_lt (small1000 h)
theorem pd_tup {x1} (h : PA X es (tA cls W ra)) : PE X (.Tuple es x1 pos) (tE cls W (tupD ra)) :=
  PE_imp (pe_tup h) fun σ H Q ⟨B, S, ρ, g, I, h⟩ => by
    unfold tupD at h
    refine ⟨B, S, ρ, g, I, ?_⟩
    cases ea : ra ρ g with
    | bad => rw [ea] at h; exact h
    | ex n g1 => rw [ea] at h; exact h
    | ok ds g1 =>
      rw [ea] at h
      intro vs H1 S1 I1 e1 r1
      simp only [R.bind_ok] at h
      by_cases hz : ds.length ≤ 1000
      · rw [if_pos hz] at h
        refine ⟨line1000 (by rw [r1.length]; exact hz), fun p hp => ?_⟩
        obtain ⟨I2, e2⟩ := I1.alloc (o := .tup vs) hp
        exact h _ _ _ I2 (e1.trans e2) (.tup upd_same (r1.mono e2.base))
      · rw [if_neg hz] at h
        exact False.elim h
@[simp] def lstO (r : Ar) : Ow := fun ρ g => (r ρ g).bind fun ds g1 => if ds.length ≤ 1000 then .ok (.lst ds) g1 else .bad
theorem po_lst (h : PA X es (tA cls W ra)) : PE X (.List es pos) (tO cls W (lstO ra)) :=
  PE_imp (pe_lst h) fun σ H Q ⟨B, S, ρ, g, I, h⟩ => by
    unfold lstO at h
    refine ⟨B, S, ρ, g, I, ?_⟩
    cases ea : ra ρ g with
    | bad => rw [ea] at h; exact h
    | ex n g1 => rw [ea] at h; exact h
    | ok ds g1 =>
      rw [ea] at h
      intro vs H1 S1 I1 e1 r1
      simp only [R.bind_ok] at h
      by_cases hz : ds.length ≤ 1000
      · rw [if_pos hz] at h
        refine ⟨line1000 (by rw [r1.length]; exact hz), fun p hp => ?_⟩
        obtain ⟨I2, e2⟩ := I1.allocO (o := .lst vs) hp
        exact h p (.lst vs) _ _ I2 (e1.trans e2) (I1.stay hp) (none_back e1 hp) upd_same (.lst r1)
      · rw [if_neg hz] at h
        exact False.elim h
/-- a new thing becomes a datum -/
@[simp] def shareO (f : Ow) : Ex := fun ρ g => (f ρ g).bind fun b g1 => match b with
  | .lst ds => .ok (.list ds) g1
  | _ => .bad
theorem pd_share {f : Ow} (h : PE X e (tO cls W f)) : PE X e (tE cls W (shareO f)) :=
  PE_imp h fun σ H Q ⟨B, S, ρ, g, I, h⟩ => by
    unfold shareO at h
    refine ⟨B, S, ρ, g, I, ?_⟩
    cases ea : f ρ g with
    | bad => rw [ea] at h; exact h
    | ex n g1 => rw [ea] at h; exact h
    | ok b g1 =>
      rw [ea] at h
      intro a o H1 S1 I1 e1 n1 n2 ho hb
      obtain ⟨I2, e2⟩ := I.share I1 e1 n1 n2 ho
      cases hb with
      | dk _ => exact False.elim h
      | dt _ => exact False.elim h
      | mat _ => exact False.elim h
      | lst r => exact h _ _ _ I2 e2 (.lst upd_same (r.mono fun c u q => by rw [upd_ne (ne_of_none q n1)]; exact q))
end
end DL

set_option Elab.async false
set_option linter.all false
set_option maxRecDepth 100000
set_option maxHeartbeats 400000
namespace DL
open PySem PySem.Spec PyProof.Rows L2

/-! ### operators by data -/
def big : Nat := 1000000
theorem big_line {n : Nat} (h : n ≤ big) : n ≤ sizeLine := Nat.le_trans h (by rw [sizeLine_eq]; decide)
theorem big_lt {n : Nat} (h : n < big) : n < sizeLine := Nat.lt_of_lt_of_le h (by rw [sizeLine_eq]; decide)
@[simp] def addD : PyData → PyData → Option PyData
  | .int i, .int j => some (.int (i + j))
  | .tuple xs, .tuple ys => if xs.length + ys.length ≤ big then some (.tuple (xs ++ ys)) else none
  | .list xs, .list ys => if xs.length + ys.length ≤ big then some (.list (xs ++ ys)) else none
  | _, _ => none
@[simp] def subD : PyData → PyData → Option PyData
  | .int i, .int j => some (.int (i - j))
  | _, _ => none
@[simp] def mulD : PyData → PyData → Option PyData
  | .int i, .int j => if (-(2 ^ 64) < i ∧ i < 2 ^ 64) ∨ (-(2 ^ 64) < j ∧ j < 2 ^ 64) then some (.int (i * j)) else none
  | .tuple xs, .int k => if k = 1 then some (.tuple xs) else if xs ≠ [] ∧ 2 ≤ k ∧ k ≤ 1000 ∧ xs.length ≤ 1000 then some (.tuple (List.replicate k.toNat xs).flatten) else none
  | .list xs, .int k => if -1000000 ≤ k ∧ k ≤ 1000000 ∧ xs.length * k.toNat ≤ big then some (.list (List.replicate k.toNat xs).flatten) else none
  | _, _ => none
@[simp] def fdivD : PyData → PyData → Option PyData
  | .int i, .int j => if 0 < j ∧ j < 1073741824 then some (.int (i / j)) else none
  | _, _ => none
@[simp] def modD : PyData → PyData → Option PyData
  | .int i, .int j => if 0 < j then some (.int (i % j)) else none
  | _, _ => none
@[simp] def powD : PyData → PyData → Option PyData
  | .int i, .int j => if 0 ≤ j ∧ j ≤ 1000000 ∧ i.natAbs < 2 ^ 64 then some (.int (i ^ j.toNat)) else none
  | _, _ => none
@[simp] def cmpD (p : Int → Int → Bool) : PyData → PyData → Option PyData
  | .int i, .int j => some (.bool (p i j))
  | _, _ => none
def eqD : PyData → PyData → Option PyData
  | .int i, .int j => some (.bool (decide (i = j)))
  | .none, .int _ => some (.bool false)
  | .int _, .none => some (.bool false)
  | .none, .none => some (.bool true)
  | .str i, .str j => some (.bool (decide (i = j)))
  | .bool i, .bool j => some (.bool (decide (i = j)))
  | x, y => if SeqAt.shaped x = true ∧ SeqAt.shaped y = true then some (.bool (PyData.eqv x y)) else none
def neD (x y : PyData) : Option PyData := match eqD x y with
  | some (.bool b) => some (.bool (!b))
  | _ => none
def inD : PyData → PyData → Option PyData
  | d, .list ds => if SeqAt.shaped d = true ∧ SeqAt.shaped (.list ds) = true then some (.bool (ds.any fun z => PyData.eqv z d)) else none
  | d, .tuple ds => if SeqAt.shaped d = true ∧ SeqAt.shaped (.tuple ds) = true then some (.bool (ds.any fun z => PyData.eqv z d)) else none
  | _, _ => none
/-- within a list or a tuple -/
def rInC (K : PySem.W.Frag) : R2 := fun x y H Q => ∃ d ds, Dp K H x d ∧ ((Dp K H y (.list ds) ∧ SeqAt.shaped (.list ds) = true) ∨ (Dp K H y (.tuple ds) ∧ SeqAt.shaped (.tuple ds) = true)) ∧ SeqAt.shaped d = true ∧ Q (.bl (ds.any fun z => PyData.eqv z d)) H
def rNotInC (K : PySem.W.Frag) : R2 := fun x y H Q => ∃ d ds, Dp K H x d ∧ ((Dp K H y (.list ds) ∧ SeqAt.shaped (.list ds) = true) ∨ (Dp K H y (.tuple ds) ∧ SeqAt.shaped (.tuple ds) = true)) ∧ SeqAt.shaped d = true ∧ Q (.bl (!ds.any fun z => PyData.eqv z d)) H
section
variable {X : Cx}
theorem op_inC (hu : X.A.units + 65 < cLine) : OpR X (compareOp .In) (rInC X.K) := by
  intro pins s σ H x y v u Q I rx ry h
  obtain ⟨d, ds, hd, ⟨he, se⟩ | ⟨he, se⟩, sd, q⟩ := h
  · obtain ⟨as, r1⟩ := Dp.reads I d x v hd rx
    obtain ⟨bs, r2⟩ := Dp.reads I (.list ds) y u he ry
    exact SeqAt.in_list_reads r2 r1 (SeqAt.canLay_of_shaped se) (SeqAt.canLay_of_shaped sd) (room_in_shaped sd hu) ⟨.bl _, H, I, rfl, q⟩
  · obtain ⟨as, r1⟩ := Dp.reads I d x v hd rx
    obtain ⟨bs, r2⟩ := Dp.reads I (.tuple ds) y u he ry
    exact SeqAt.in_tuple_reads r2 r1 (SeqAt.canLay_of_shaped se) (SeqAt.canLay_of_shaped sd) (room_in_shaped sd hu) ⟨.bl _, H, I, rfl, q⟩
theorem op_notInC (hu : X.A.units + 65 < cLine) : OpR X (compareOp .NotIn) (rNotInC X.K) := by
  intro pins s σ H x y v u Q I rx ry h
  obtain ⟨d, ds, hd, ⟨he, se⟩ | ⟨he, se⟩, sd, q⟩ := h
  · obtain ⟨as, r1⟩ := Dp.reads I d x v hd rx
    obtain ⟨bs, r2⟩ := Dp.reads I (.list ds) y u he ry
    exact SeqAt.notIn_list_reads r2 r1 (SeqAt.canLay_of_shaped se) (SeqAt.canLay_of_shaped sd) (room_in_shaped sd hu) ⟨.bl _, H, I, rfl, q⟩
  · obtain ⟨as, r1⟩ := Dp.reads I d x v hd rx
    obtain ⟨bs, r2⟩ := Dp.reads I (.tuple ds) y u he ry
    exact SeqAt.notIn_tuple_reads r2 r1 (SeqAt.canLay_of_shaped se) (SeqAt.canLay_of_shaped sd) (room_in_shaped sd hu) ⟨.bl _, H, I, rfl, q⟩
end
def notInD (x y : PyData) : Option PyData := match inD x y with
  | some (.bool b) => some (.bool (!b))
  | _ => none
section
variable {K : PySem.W.Frag}
theorem spec_i {C : Int → Int → Prop} {f : Int → Int → Int} {op : PyData → PyData → Option PyData} (h : ∀ x y d, op x y = some d → ∃ i j, x = .int i ∧ y = .int j ∧ C i j ∧ d = .int (f i j)) : Spec2 (rI C fun i j => .int (f i j)) op := by
  intro B σ H S ρ g x y d v u Q e I rx ry k
  obtain ⟨i, j, rfl, rfl, c, rfl⟩ := h x y d e
  cases rx
  cases ry
  exact ⟨i, j, rfl, rfl, c, k _ H S I .refl (.int _)⟩
theorem spec_c {p : Int → Int → Bool} : Spec2 (rI0 fun i j => .bl (p i j)) (cmpD p) := by
  intro B σ H S ρ g x y d v u Q e I rx ry k
  cases rx with
  | int i =>
    cases ry with
    | int j =>
      cases e
      exact ⟨i, j, rfl, rfl, k _ H S I .refl (.bl _)⟩
    | _ => cases e
  | _ => cases e
abbrev addR (K : PySem.W.Frag) : R2 := fun x y H Q => (rI0 fun i j => .int (i + j)) x y H Q ∨ (rCatA K x y H Q ∨ rCat x y H Q)
theorem op_addA {X : Cx} : OpR X (binaryOp .Add) (addR X.K) := OpR.or op_add (OpR.or op_catA op_cat)
theorem spec_add : Spec2 (addR K) addD := by
  intro B σ H S ρ g x y d v u Q e I rx ry k
  cases rx with
  | int i =>
    cases ry with
    | int j =>
      cases e
      exact .inl ⟨i, j, rfl, rfl, k _ H S I .refl (.int _)⟩
    | _ => cases e
  | @tup a xs ds hx qx =>
    cases ry with
    | @tup b ys es hy qy =>
      unfold addD at e
      by_cases hl : ds.length + es.length ≤ big
      · simp only [if_pos hl] at e
        cases e
        refine .inr (.inl ⟨a, b, xs, ys, rfl, rfl, .of (I.sub _ _ hx), .of (I.sub _ _ hy), big_line (by rw [qx.length, qy.length]; exact hl), fun z => ?_, fun _ z => ?_, fun _ _ p hp => ?_⟩)
        · subst z
          cases qx
          exact k _ H S I .refl (.tup hy qy)
        · subst z
          cases qy
          exact k _ H S I .refl (by rw [List.append_nil]; exact .tup hx qx)
        · obtain ⟨I2, e2⟩ := I.alloc (o := .tup (xs ++ ys)) hp
          exact k _ _ _ I2 e2 (.tup upd_same ((qx.append qy).mono e2.base))
      · simp only [if_neg hl] at e
        cases e
    | _ => cases e
  | @lst a xs ds hx qx =>
    cases ry with
    | @lst b ys es hy qy =>
      unfold addD at e
      by_cases hl : ds.length + es.length ≤ big
      · simp only [if_pos hl] at e
        cases e
        refine .inr (.inr ⟨a, b, xs, ys, rfl, rfl, I.sub _ _ hx, I.sub _ _ hy, big_line (by rw [qx.length, qy.length]; exact hl), fun p hp => ?_⟩)
        obtain ⟨I2, e2⟩ := I.alloc (o := .lst (xs ++ ys)) hp
        exact k _ _ _ I2 e2 (.lst upd_same ((qx.append qy).mono e2.base))
      · simp only [if_neg hl] at e
        cases e
    | _ => cases e
  | _ => cases e
theorem spec_sub : Spec2 (rI0 fun i j => .int (i - j)) subD := by
  intro B σ H S ρ g x y d v u Q e I rx ry k
  cases rx with
  | int i =>
    cases ry with
    | int j =>
      cases e
      exact ⟨i, j, rfl, rfl, k _ H S I .refl (.int _)⟩
    | _ => cases e
  | _ => cases e
theorem spec_fdiv : Spec2 (rI CDiv fun i j => .int (i / j)) fdivD := spec_i fun x y d e => by
  unfold fdivD at e
  split at e
  · rename_i i j
    by_cases h : 0 < j ∧ j < 1073741824
    · rw [if_pos h] at e; cases e; exact ⟨i, j, rfl, rfl, h, rfl⟩
    · rw [if_neg h] at e; cases e
  · cases e
theorem spec_mod : Spec2 (rI (fun _ j => 0 < j) fun i j => .int (i % j)) modD := spec_i fun x y d e => by
  unfold modD at e
  split at e
  · rename_i i j
    by_cases h : 0 < j
    · rw [if_pos h] at e; cases e; exact ⟨i, j, rfl, rfl, h, rfl⟩
    · rw [if_neg h] at e; cases e
  · cases e
theorem spec_pow : Spec2 (rI CPow fun i j => .int (i ^ j.toNat)) powD := spec_i fun x y d e => by
  unfold powD at e
  split at e
  · rename_i i j
    by_cases h : 0 ≤ j ∧ j ≤ 1000000 ∧ i.natAbs < 2 ^ 64
    · rw [if_pos h] at e; cases e; exact ⟨i, j, rfl, rfl, h, rfl⟩
    · rw [if_neg h] at e; cases e
  · cases e
theorem tuple_mul1 (l : Addr) (items : Array Value) (n : Nat) (dd : Option Addr) (sl : Array (Option Value)) (u : Tok) :
    Meets (Builtin.«tuple.__mul__» ⟨[.ref l, .int 1 u], []⟩) (fun _ R s => s.heap.get? l = some { cls := .type "tuple", dict := dd, data := .seq items n, slots := sl } ∧ R (.ok (.ret (Value.ref l))) s) :=
  .of_wp fun prog w A R s h => by
    obtain ⟨hp, g, d, tk, os⟩ := s
    obtain ⟨hl, h⟩ := h
    have f1 := AutoSeq1.idx_int
    have c1 : (items.isEmpty || (1 : Int) == 1) = true := by simp
    wp_walk using wpAny_loadPart' hl
    exact ⟨_, rfl, h⟩
/-- a tuple, once -/
def rRepT1 (K : PySem.W.Frag) : R2 := fun x y H Q => ∃ l xs, x = .ref l ∧ y = .int 1 ∧ SqT K H l xs ∧ Q (.ref l) H
theorem op_repT1 {X : Cx} : OpR X (binaryOp .Mult) (rRepT1 X.K) := by
  intro pins s σ H x y v u Q I rx ry h
  obtain ⟨l, xs, rfl, rfl, hT, q⟩ := h
  cases rx
  obtain ⟨t, rfl⟩ := ry
  obtain ⟨its, r, ⟨⟨cls, dd, data, sl⟩, ho, hc, n, hd⟩, hs⟩ := I.tuple hT
  simp only at hc hd
  subst hc hd
  exact wpAny_binaryOp_repeat_ref (T := "tuple") (U := "int") (by decide) ⟨_, ho, rfl⟩ (fun s' => typeIs_int s' 1 t) noFill_tuple_mul F.fills_int_mul F.slot_int_rmul repeat_tuple F.slot_int_index.lookup
    (call_meets F.slot_int_rmul (typeIs_int s 1 t) F.entry_int_rmul (F.args_int_rmul_2 _ _) (int_rmul_tuple 1 t l its.toArray n dd sl)
      ⟨ho, rfl, ⟨_, ho, rfl⟩, call_meets F.slot_tuple_mul ⟨_, ho, rfl⟩ F.entry_tuple_mul (F.args_tuple_mul_2 _ _) (tuple_mul1 l its.toArray n dd sl t) ⟨ho, ⟨.ref l, H, I, rfl, q⟩⟩⟩)
abbrev mulR (K : PySem.W.Frag) : R2 := fun x y H Q => (rI CMul fun i j => .int (i * j)) x y H Q ∨ ((rRepT K x y H Q ∨ rRepT1 K x y H Q) ∨ rRep x y H Q)
theorem op_mulA {X : Cx} : OpR X (binaryOp .Mult) (mulR X.K) := OpR.or op_mul (OpR.or (OpR.or op_repT op_repT1) op_rep)
theorem spec_mul : Spec2 (mulR K) mulD := by
  intro B σ H S ρ g x y d v u Q e I rx ry k
  cases rx with
  | int i =>
    cases ry with
    | int j =>
      unfold mulD at e
      by_cases h : (-(2 ^ 64) < i ∧ i < 2 ^ 64) ∨ (-(2 ^ 64) < j ∧ j < 2 ^ 64)
      · simp only [if_pos h] at e; cases e; exact .inl ⟨i, j, rfl, rfl, h, k _ H S I .refl (.int _)⟩
      · simp only [if_neg h] at e; cases e
    | _ => cases e
  | @tup a xs ds hx qx =>
    cases ry with
    | int j =>
      unfold mulD at e
      by_cases h1 : j = 1
      · subst h1
        simp only [if_true] at e
        cases e
        exact .inr (.inl (.inr ⟨a, xs, rfl, rfl, .of (I.sub _ _ hx), k _ H S I .refl (.tup hx qx)⟩))
      · simp only [if_neg h1] at e
        by_cases h : ds ≠ [] ∧ 2 ≤ j ∧ j ≤ 1000 ∧ ds.length ≤ 1000
        · simp only [if_pos h] at e
          cases e
          refine .inr (.inl (.inl ⟨a, j, xs, rfl, rfl, .of (I.sub _ _ hx), fun z => ?_, h.2.1, h.2.2.1, by rw [qx.length]; exact h.2.2.2, fun p hp => ?_⟩))
          · subst z
            cases qx
            exact h.1 rfl
          · obtain ⟨I2, e2⟩ := I.alloc (o := .tup (List.replicate j.toNat xs).flatten) hp
            exact k _ _ _ I2 e2 (.tup upd_same ((qx.flatten _).mono e2.base))
        · simp only [if_neg h] at e; cases e
    | _ => cases e
  | @lst a xs ds hx qx =>
    cases ry with
    | int j =>
      unfold mulD at e
      by_cases h : -1000000 ≤ j ∧ j ≤ 1000000 ∧ ds.length * j.toNat ≤ big
      · simp only [if_pos h] at e
        cases e
        refine .inr (.inr ⟨a, j, xs, rfl, rfl, I.sub _ _ hx, by omega, by omega, big_line (by rw [qx.length]; exact h.2.2), fun p hp => ?_⟩)
        obtain ⟨I2, e2⟩ := I.alloc (o := .lst (List.replicate j.toNat xs).flatten) hp
        exact k _ _ _ I2 e2 (.lst upd_same ((qx.flatten _).mono e2.base))
      · simp only [if_neg h] at e; cases e
    | _ => cases e
  | _ => cases e
abbrev eqR (K : PySem.W.Frag) : R2 := fun x y H Q => rEq x y H Q ∨ rEqD K x y H Q
abbrev neR (K : PySem.W.Frag) : R2 := fun x y H Q => rNe x y H Q ∨ rNeD K x y H Q
theorem eqD_cases {x y d : PyData} (e : eqD x y = some d) : ∃ b, d = .bool b ∧ ((∀ S v u, Rp S v x → Rp S u y → scal v u = true ∧ decide (v = u) = b) ∨ (SeqAt.shaped x = true ∧ SeqAt.shaped y = true ∧ PyData.eqv x y = b)) := by
  unfold eqD at e
  split at e
  · rename_i i j
    cases e
    refine ⟨_, rfl, .inl fun S v u r q => ?_⟩
    cases r; cases q
    exact ⟨rfl, by by_cases h : i = j <;> simp [h]⟩
  · cases e
    refine ⟨_, rfl, .inl fun S v u r q => ?_⟩
    cases r; cases q
    exact ⟨rfl, by simp⟩
  · cases e
    refine ⟨_, rfl, .inl fun S v u r q => ?_⟩
    cases r; cases q
    exact ⟨rfl, by simp⟩
  · cases e
    refine ⟨_, rfl, .inl fun S v u r q => ?_⟩
    cases r; cases q
    exact ⟨rfl, by simp⟩
  · rename_i i j
    cases e
    refine ⟨_, rfl, .inl fun S v u r q => ?_⟩
    cases r; cases q
    exact ⟨rfl, by by_cases h : i = j <;> simp [h]⟩
  · rename_i i j
    cases e
    refine ⟨_, rfl, .inl fun S v u r q => ?_⟩
    cases r; cases q
    exact ⟨rfl, by by_cases h : i = j <;> simp [h]⟩
  · rename_i h1 h2 h3 h4 h5 h6
    by_cases h : SeqAt.shaped x = true ∧ SeqAt.shaped y = true
    · rw [if_pos h] at e; cases e; exact ⟨_, rfl, .inr ⟨h.1, h.2, rfl⟩⟩
    · rw [if_neg h] at e; cases e
theorem spec_eq : Spec2 (eqR K) eqD := by
  intro B σ H S ρ g x y d v u Q e I rx ry k
  obtain ⟨b, rfl, h | ⟨h1, h2, h3⟩⟩ := eqD_cases e
  · obtain ⟨h1, h2⟩ := h S v u rx ry
    exact .inl ⟨h1, by rw [h2]; exact k _ H S I .refl (.bl _)⟩
  · exact .inr ⟨x, y, rx.dp I.sub, ry.dp I.sub, h1, h2, by rw [h3]; exact k _ H S I .refl (.bl _)⟩
theorem spec_ne : Spec2 (neR K) neD := by
  intro B σ H S ρ g x y d v u Q e I rx ry k
  unfold neD at e
  split at e
  · rename_i b he
    cases e
    obtain ⟨b', hb, h⟩ := eqD_cases he
    cases hb
    rcases h with h | ⟨h1, h2, h3⟩
    · obtain ⟨h1, h2⟩ := h S v u rx ry
      exact .inl ⟨h1, by rw [h2]; exact k _ H S I .refl (.bl _)⟩
    · exact .inr ⟨x, y, rx.dp I.sub, ry.dp I.sub, h1, h2, by rw [h3]; exact k _ H S I .refl (.bl _)⟩
  · cases e
theorem inD_cases {x y d : PyData} (e : inD x y = some d) : ∃ ds, ((y = .list ds ∧ SeqAt.shaped (.list ds) = true) ∨ (y = .tuple ds ∧ SeqAt.shaped (.tuple ds) = true)) ∧ SeqAt.shaped x = true ∧ d = .bool (ds.any fun z => PyData.eqv z x) := by
  unfold inD at e
  split at e
  · rename_i ds
    by_cases h : SeqAt.shaped x = true ∧ SeqAt.shaped (.list ds) = true
    · rw [if_pos h] at e; cases e; exact ⟨ds, .inl ⟨rfl, h.2⟩, h.1, rfl⟩
    · rw [if_neg h] at e; cases e
  · rename_i ds
    by_cases h : SeqAt.shaped x = true ∧ SeqAt.shaped (.tuple ds) = true
    · rw [if_pos h] at e; cases e; exact ⟨ds, .inr ⟨rfl, h.2⟩, h.1, rfl⟩
    · rw [if_neg h] at e; cases e
  · cases e
theorem spec_in : Spec2 (rInC K) inD := by
  intro B σ H S ρ g x y d v u Q e I rx ry k
  obtain ⟨ds, ⟨rfl, h2⟩ | ⟨rfl, h2⟩, h1, rfl⟩ := inD_cases e
  · exact ⟨x, ds, rx.dp I.sub, .inl ⟨ry.dp I.sub, h2⟩, h1, k _ H S I .refl (.bl _)⟩
  · exact ⟨x, ds, rx.dp I.sub, .inr ⟨ry.dp I.sub, h2⟩, h1, k _ H S I .refl (.bl _)⟩
theorem spec_notIn : Spec2 (rNotInC K) notInD := by
  intro B σ H S ρ g x y d v u Q e I rx ry k
  unfold notInD at e
  split at e
  · rename_i b he
    cases e
    obtain ⟨ds, ⟨rfl, h2⟩ | ⟨rfl, h2⟩, h1, h3⟩ := inD_cases he
    · cases h3
      exact ⟨x, ds, rx.dp I.sub, .inl ⟨ry.dp I.sub, h2⟩, h1, k _ H S I .refl (.bl _)⟩
    · cases h3
      exact ⟨x, ds, rx.dp I.sub, .inr ⟨ry.dp I.sub, h2⟩, h1, k _ H S I .refl (.bl _)⟩
  · cases e
/-- an item -/
def ixD : PyData → PyData → Option PyData
  | .list ds, .int i => atI ds i
  | .tuple ds, .int i => atI ds i
  | _, _ => none
theorem Rps.atI {S : Hp} {vs : List V} {ds : List PyData} {i : Int} {d : PyData} (r : Rps S vs ds) (e : L2.atI ds i = some d) : ∃ v, L2.atI vs i = some v ∧ Rp S v d := by
  unfold L2.atI at e ⊢
  rw [r.length]
  cases h : ixN ds.length i with
  | none => rw [h] at e; cases e
  | some j =>
    rw [h] at e
    exact r.getD (i := j) e
abbrev ixR (K : PySem.W.Frag) : R2 := fun x y H Q => rIxL K x y H Q ∨ rIxT K x y H Q
theorem spec_ix : Spec2 (ixR K) ixD := by
  intro B σ H S ρ g x y d v u Q e I rx ry k
  cases rx with
  | @lst a xs ds hx qx =>
    cases ry with
    | int i =>
      obtain ⟨w, e1, r1⟩ := qx.atI (show atI ds i = some d from e)
      exact .inl ⟨a, xs, i, w, rfl, rfl, .of (I.sub _ _ hx), e1, k _ H S I .refl r1⟩
    | _ => cases e
  | @tup a xs ds hx qx =>
    cases ry with
    | int i =>
      obtain ⟨w, e1, r1⟩ := qx.atI (show atI ds i = some d from e)
      exact .inr ⟨a, xs, i, w, rfl, rfl, .of (I.sub _ _ hx), e1, k _ H S I .refl r1⟩
    | _ => cases e
  | _ => cases e
end
section
variable {X : Cx} {cls : Nat → Value} {W : WX} {pos : Pos} {a b c : Expr} {fa fb fc : Ex} {k : Nat}
theorem pd_add (ha : PE X a (tE cls W fa)) (hb : PE X b (tE cls W fb)) : PE X (.BinOp a .Add b pos) (tE cls W (opD addD fa fb)) := pd_bin op_addA spec_add ha hb
theorem pd_sub (ha : PE X a (tE cls W fa)) (hb : PE X b (tE cls W fb)) : PE X (.BinOp a .Sub b pos) (tE cls W (opD subD fa fb)) := pd_bin op_sub spec_sub ha hb
theorem pd_mul (ha : PE X a (tE cls W fa)) (hb : PE X b (tE cls W fb)) : PE X (.BinOp a .Mult b pos) (tE cls W (opD mulD fa fb)) := pd_bin op_mulA spec_mul ha hb
theorem pd_fdiv (ha : PE X a (tE cls W fa)) (hb : PE X b (tE cls W fb)) : PE X (.BinOp a .FloorDiv b pos) (tE cls W (opD fdivD fa fb)) := pd_bin op_fdiv spec_fdiv ha hb
theorem pd_mod (ha : PE X a (tE cls W fa)) (hb : PE X b (tE cls W fb)) : PE X (.BinOp a .Mod b pos) (tE cls W (opD modD fa fb)) := pd_bin op_mod spec_mod ha hb
theorem pd_pow (ha : PE X a (tE cls W fa)) (hb : PE X b (tE cls W fb)) : PE X (.BinOp a .Pow b pos) (tE cls W (opD powD fa fb)) := pd_bin op_pow spec_pow ha hb
theorem pd_ix (ha : PE X a (tE cls W fa)) (hb : PE X b (tE cls W fb)) (hs : PlainIx b := by exact fun _ _ => rfl) : PE X (.Subscript a b pos) (tE cls W (opD ixD fa fb)) := PE_imp (pe_ix (IxR.or ix_list ix_tup) ha hb hs) (op_of spec_ix)
theorem un_negA : UnR X (unaryOp .USub) (rU fun i => .int (-i)) := un_neg
@[simp] def negD : PyData → Option PyData
  | .int i => some (.int (-i))
  | _ => none
def Spec1 (r : V → Hp → VK → Prop) (op : PyData → Option PyData) : Prop := ∀ (B : Bs) (σ : L2.St) (H S : Hp) (ρ : Nv) (g : G) (x d : PyData) (v : V) (Q : VK), op x = some d → Good B σ H S ρ g → Rp S v x →
  (∀ w H' S', Good B σ H' S' ρ g → Gr B H S H' S' → Rp S' w d → Q w H') → r v H Q
theorem un_of {r : V → Hp → VK → Prop} {op : PyData → Option PyData} (sp : Spec1 r op) (σ : L2.St) (H : Hp) (Q : VK) (h : tE cls W (unD op fa) σ H Q) : (tE cls W fa) σ H fun x H1 => r x H1 Q := by
  obtain ⟨B, S, ρ, g, I, h⟩ := h
  unfold unD at h
  refine ⟨B, S, ρ, g, I, ?_⟩
  cases ea : fa ρ g with
  | bad => rw [ea] at h; exact h
  | ex n g1 => rw [ea] at h; exact h
  | ok x g1 =>
    rw [ea] at h
    intro v H1 S1 I1 e1 r1
    have h' := EO_gr e1 h
    simp only [R.bind_ok] at h'
    cases eo : op x with
    | none => rw [eo] at h'; exact False.elim h'
    | some d =>
      rw [eo] at h'
      exact sp B σ H1 S1 ρ g1 x d v Q eo I1 r1 h'
theorem pd_neg (ha : PE X a (tE cls W fa)) : PE X (.UnaryOp .USub a pos) (tE cls W (unD negD fa)) := PE_imp (pe_un un_neg ha) (un_of fun B σ H S ρ g x d v Q e I r k => by
  cases r with
  | int i => cases e; exact ⟨i, rfl, k _ H S I .refl (.int _)⟩
  | _ => cases e)
/-! comparisons: the operator's rule and data's, as value and as test -/
structure Cmp (X : Cx) (op : CmpOp) (o : PyData → PyData → Option PyData) : Prop where
  ex : ∃ r, OpR X (compareOp op) r ∧ Spec2 r o
theorem c_lt : Cmp X .Lt (cmpD fun i j => decide (i < j)) := ⟨_, op_lt, spec_c⟩
theorem c_le : Cmp X .LtE (cmpD fun i j => decide (i ≤ j)) := ⟨_, op_le, spec_c⟩
theorem c_gt : Cmp X .Gt (cmpD fun i j => decide (j < i)) := ⟨_, op_gt, spec_c⟩
theorem c_ge : Cmp X .GtE (cmpD fun i j => decide (j ≤ i)) := ⟨_, op_ge, spec_c⟩
theorem hu64 (hr : Room k X.A) : X.A.units + 64 < cLine := hr.units
theorem hu65 (hr : Room k X.A) : X.A.units + 65 < cLine := by have := hr.un; omega
theorem c_eq (hr : Room k X.A) : Cmp X .Eq eqD := ⟨_, OpR.or op_eq (op_eqD (hu64 hr)), spec_eq⟩
theorem c_ne (hr : Room k X.A) : Cmp X .NotEq neD := ⟨_, OpR.or op_ne (op_neD (hu64 hr)), spec_ne⟩
theorem c_in (hr : Room k X.A) : Cmp X .In inD := ⟨_, op_inC (hu65 hr), spec_in⟩
theorem c_notIn (hr : Room k X.A) : Cmp X .NotIn notInD := ⟨_, op_notInC (hu65 hr), spec_notIn⟩
variable {op op' : CmpOp} {o o' : PyData → PyData → Option PyData}
theorem pd_cmp (h : Cmp X op o) (ha : PE X a (tE cls W fa)) (hb : PE X b (tE cls W fb)) (hm : behindInMarks op b = false := by first | exact nomark _ | rfl) : PE X (.Compare a [op] [b] pos) (tE cls W (opD o fa fb)) := by
  obtain ⟨r, h1, h2⟩ := h.ex
  exact pd_cmpO h1 h2 ha hb hm
theorem ptd_cmp (h : Cmp X op o) (ha : PE X a (tE cls W fa)) (hb : PE X b (tE cls W fb)) (hm : behindInMarks op b = false := by first | exact nomark _ | rfl) : PT X (.Compare a [op] [b] pos) (tT cls W (boolD (opD o fa fb))) := by
  obtain ⟨r, h1, h2⟩ := h.ex
  exact ptd_cmpO h1 h2 ha hb hm
/-- a op b op' c -/
@[simp] def chainD (o o' : PyData → PyData → Option PyData) (a b c : Ex) : Ex := fun ρ g => (a ρ g).bind fun x g1 => (b ρ g1).bind fun y g2 => (ofO (o x y) g2).bind fun z g3 => match z with
  | .bool true => (c ρ g3).bind fun w g4 => ofO (o' y w) g4
  | .bool false => .ok (.bool false) g3
  | _ => .bad
theorem chain_of {r r' : R2} (s : Spec2 r o) (s' : Spec2 r' o') (σ : L2.St) (H : Hp) (Q : VK) (h : tE cls W (chainD o o' fa fb fc) σ H Q) : tChain r r' (tE cls W fa) (tE cls W fb) (tE cls W fc) σ H Q := by
  obtain ⟨B, S, ρ, g, I, h⟩ := h
  unfold chainD at h
  refine ⟨B, S, ρ, g, I, ?_⟩
  cases ea : fa ρ g with
  | bad => rw [ea] at h; exact h
  | ex n g1 => rw [ea] at h; exact h
  | ok x g1 =>
    rw [ea] at h
    intro v H1 S1 I1 e1 r1
    refine ⟨B, S1, ρ, g1, I1, ?_⟩
    have h' := EO_gr e1 h
    simp only [R.bind_ok] at h'
    cases eb : fb ρ g1 with
    | bad => rw [eb] at h'; exact h'
    | ex n g2 => rw [eb] at h'; exact h'
    | ok y g2 =>
      rw [eb] at h'
      simp only [R.bind_ok] at h'
      intro u H2 S2 I2 e2 r2
      have h2 := EO_gr e2 h'
      cases eo : o x y with
      | none => rw [eo] at h2; exact False.elim h2
      | some d =>
        rw [eo] at h2
        simp only [ofO_some, R.bind_ok] at h2
        refine s B σ H2 S2 ρ g2 x y d v u _ eo I2 (r1.mono e2.base) r2 fun z H3 S3 I3 e3 r3 => ?_
        have h3 := EO_gr e3 h2
        cases r3 with
        | bl t =>
          refine ⟨t, rfl, ?_⟩
          cases t with
          | false => exact h3 _ H3 S3 I3 .refl (.bl _)
          | true =>
            refine ⟨B, S3, ρ, g2, I3, ?_⟩
            simp only at h3
            cases ec : fc ρ g2 with
            | bad => rw [ec] at h3; exact h3
            | ex n g4 => rw [ec] at h3; exact h3
            | ok w g4 =>
              rw [ec] at h3
              simp only [R.bind_ok] at h3
              intro q H4 S4 I4 e4 r4
              have h4 := EO_gr e4 h3
              cases eo' : o' y w with
              | none => rw [eo'] at h4; exact False.elim h4
              | some d' =>
                rw [eo'] at h4
                exact s' B σ H4 S4 ρ g4 y w d' u q Q eo' I4 ((r2.mono e3.base).mono e4.base) r4 h4
        | _ => exact False.elim h3
theorem pd_chain (h : Cmp X op o) (h' : Cmp X op' o') (ha : PE X a (tE cls W fa)) (hb : PE X b (tE cls W fb)) (hc : PE X c (tE cls W fc)) (hm : lastMarks [op, op'] [b, c] = false := by with_unfolding_all rfl) :
    PE X (.Compare a [op, op'] [b, c] pos) (tE cls W (chainD o o' fa fb fc)) := by
  obtain ⟨r, h1, h2⟩ := h.ex
  obtain ⟨r', h3, h4⟩ := h'.ex
  exact PE_imp (pe_chain h1 h3 ha hb hc hm) (chain_of h2 h4)
theorem ptd_chain (h : Cmp X op o) (h' : Cmp X op' o') (ha : PE X a (tE cls W fa)) (hb : PE X b (tE cls W fb)) (hc : PE X c (tE cls W fc)) (hm : lastMarks [op, op'] [b, c] = false := by with_unfolding_all rfl) :
    PT X (.Compare a [op, op'] [b, c] pos) (tT cls W (boolD (chainD o o' fa fb fc))) := by
  obtain ⟨r, h1, h2⟩ := h.ex
  obtain ⟨r', h3, h4⟩ := h'.ex
  exact PT_imp (pt_chain h1 h3 ha hb hc hm) fun σ H Q z => chain_of h2 h4 σ H _ (boolD_of σ H Q z)
/-- is None -/
@[simp] def isNoneD : PyData → Option PyData
  | .none => some (.bool true)
  | _ => some (.bool false)
@[simp] def notNoneD : PyData → Option PyData
  | .none => some (.bool false)
  | _ => some (.bool true)
theorem sp_isN : Spec1 (fun x H Q => Q (.bl (decide (x = .non))) H) isNoneD := fun B σ H S ρ g x d v Q e I r k => by
  cases r <;> cases e <;> exact k _ H S I .refl (.bl _)
theorem sp_notN : Spec1 (fun x H Q => Q (.bl (!decide (x = .non))) H) notNoneD := fun B σ H S ρ g x d v Q e I r k => by
  cases r <;> cases e <;> exact k _ H S I .refl (.bl _)
theorem pd_isN {j p} (ha : PE X a (tE cls W fa)) : PE X (.Compare a [.Is] [.Constant .none j p] pos) (tE cls W (unD isNoneD fa)) := PE_imp (pe_cmp (pc_isN ha)) (un_of sp_isN)
theorem pd_notN {j p} (ha : PE X a (tE cls W fa)) : PE X (.Compare a [.IsNot] [.Constant .none j p] pos) (tE cls W (unD notNoneD fa)) := PE_imp (pe_cmp (pc_notN ha)) (un_of sp_notN)
theorem ptd_isN {j p} (ha : PE X a (tE cls W fa)) : PT X (.Compare a [.Is] [.Constant .none j p] pos) (tT cls W (boolD (unD isNoneD fa))) := PT_imp (pt_cmp (pc_isN ha)) fun σ H Q h => un_of sp_isN σ H _ (boolD_of σ H Q h)
theorem ptd_notN {j p} (ha : PE X a (tE cls W fa)) : PT X (.Compare a [.IsNot] [.Constant .none j p] pos) (tT cls W (boolD (unD notNoneD fa))) := PT_imp (pt_cmp (pc_notN ha)) fun σ H Q h => un_of sp_notN σ H _ (boolD_of σ H Q h)
/-! built-ins of one argument -/
def Spec1c (r : List V → Hp → VK → Prop) (op : PyData → Option PyData) : Prop := Spec1 (fun v H Q => r [v] H Q) op
theorem pd_call1B {x : Str} {p : Pos} {id : String} {r : List V → Hp → VK → Prop} {op : PyData → Option PyData} (hc : CallR X (.builtin id) r) (sp : Spec1c r op) (hm : X.mg x = none) (hv : bootBuiltins x = some (.builtin id)) (ha : PE X a (tE cls W fa)) (hg : Gl X x := by rfl)
    (hn : x ≠ "__name__" := by decide) (hd : (x == ("__debug__" : Str)) = false := by decide) (hs : starEach [a] X.env = (false, eval a X.env) :: starEach [] X.env := by rfl) (hpl : (backTo pos (starEach [] X.env)).any (·.1) = false := by rfl) :
    PE X (.Call (.Name x p) [a] [] pos) (tE cls W (unD op fa)) := PE_imp (pe_callB hc hg hm hv (pa_cons ha pa_nil hs) hn hd hs hpl) (un_of sp)
theorem pd_call1T {x : Str} {p : Pos} {T : String} {r : List V → Hp → VK → Prop} {op : PyData → Option PyData} (hc : CallR X (.type T) r) (sp : Spec1c r op) (hm : X.mg x = none) (hv : bootBuiltins x = some (.type T)) (ha : PE X a (tE cls W fa)) (hg : Gl X x := by rfl)
    (hn : x ≠ "__name__" := by decide) (hd : (x == ("__debug__" : Str)) = false := by decide) (hs : starEach [a] X.env = (false, eval a X.env) :: starEach [] X.env := by rfl) (hpl : (backTo pos (starEach [] X.env)).any (·.1) = false := by rfl) :
    PE X (.Call (.Name x p) [a] [] pos) (tE cls W (unD op fa)) := PE_imp (pe_callTy hc hg hm hv (pa_cons ha pa_nil hs) hn hd hs hpl) (un_of sp)
@[simp] def lenD : PyData → Option PyData
  | .list ds => some (.int ds.length)
  | .tuple ds => some (.int ds.length)
  | _ => none
theorem sp_len {K : PySem.W.Frag} : Spec1c (fun xs H Q => ∃ x n, xs = [x] ∧ LenV K x H n ∧ Q (.int n) H) lenD := fun B σ H S ρ g x d v Q e I r k => by
  cases r with
  | lst h q => cases e; exact ⟨_, _, rfl, .inl ⟨_, .of (I.sub _ _ h), rfl⟩, by rw [q.length]; exact k _ H S I .refl (.int _)⟩
  | tup h q => cases e; exact ⟨_, _, rfl, .inr ⟨_, .of (I.sub _ _ h), rfl⟩, by rw [q.length]; exact k _ H S I .refl (.int _)⟩
  | _ => cases e
theorem pd_len {p : Pos} (hm : X.mg "len" = none) (ha : PE X a (tE cls W fa)) (hg : Gl X "len" := by rfl) (hs : starEach [a] X.env = (false, eval a X.env) :: starEach [] X.env := by rfl) : PE X (.Call (.Name "len" p) [a] [] pos) (tE cls W (unD lenD fa)) :=
  pd_call1B call_len sp_len hm boot_len ha hg (by decide) (by decide) hs
@[simp] def tupleD : PyData → Option PyData
  | .list ds => some (.tuple ds)
  | .tuple ds => some (.tuple ds)
  | _ => none
theorem sp_tuple {K : PySem.W.Frag} : Spec1c (fun xs H Q => ∃ p ys, xs = [V.ref p] ∧ ((SqL K H p ys ∧ ∀ l, H l = none → Q (V.ref l) (upd H l (.tup ys))) ∨ (SqT K H p ys ∧ Q (V.ref p) H))) tupleD := fun B σ H S ρ g x d v Q e I r k => by
  cases r with
  | @lst a xs ds h q =>
    cases e
    refine ⟨_, _, rfl, .inl ⟨.of (I.sub _ _ h), fun l hl => ?_⟩⟩
    obtain ⟨I2, e2⟩ := I.alloc (o := .tup xs) hl
    exact k _ _ _ I2 e2 (.tup upd_same (q.mono e2.base))
  | tup h q => cases e; exact ⟨_, _, rfl, .inr ⟨.of (I.sub _ _ h), k _ H S I .refl (.tup h q)⟩⟩
  | _ => cases e
theorem pd_tuple {p : Pos} (hm : X.mg "tuple" = none) (ha : PE X a (tE cls W fa)) (hg : Gl X "tuple" := by rfl) (hs : starEach [a] X.env = (false, eval a X.env) :: starEach [] X.env := by rfl) : PE X (.Call (.Name "tuple" p) [a] [] pos) (tE cls W (unD tupleD fa)) :=
  pd_call1T call_tuple_of sp_tuple hm PyProof.Rows.boot_tuple ha hg (by decide) (by decide) hs
@[simp] def listD : PyData → Option PyData
  | .list ds => some (.list ds)
  | .tuple ds => some (.list ds)
  | _ => none
theorem sp_list {K : PySem.W.Frag} : Spec1c (fun xs H Q => ∃ p ys, xs = [V.ref p] ∧ (SqL K H p ys ∨ SqT K H p ys) ∧ ∀ l, H l = none → Q (V.ref l) (upd H l (.lst ys))) listD := fun B σ H S ρ g x d v Q e I r k => by
  cases r with
  | @lst a xs ds h q =>
    cases e
    refine ⟨_, _, rfl, .inl (.of (I.sub _ _ h)), fun l hl => ?_⟩
    obtain ⟨I2, e2⟩ := I.alloc (o := .lst xs) hl
    exact k _ _ _ I2 e2 (.lst upd_same (q.mono e2.base))
  | @tup a xs ds h q =>
    cases e
    refine ⟨_, _, rfl, .inr (.of (I.sub _ _ h)), fun l hl => ?_⟩
    obtain ⟨I2, e2⟩ := I.alloc (o := .lst xs) hl
    exact k _ _ _ I2 e2 (.lst upd_same (q.mono e2.base))
  | _ => cases e
theorem pd_list {p : Pos} (hm : X.mg "list" = none) (ha : PE X a (tE cls W fa)) (hg : Gl X "list" := by rfl) (hs : starEach [a] X.env = (false, eval a X.env) :: starEach [] X.env := by rfl) : PE X (.Call (.Name "list" p) [a] [] pos) (tE cls W (unD listD fa)) :=
  pd_call1T call_list_of sp_list hm PyProof.Rows.boot_list ha hg (by decide) (by decide) hs
/-- the ints of a list -/
def intsD : List PyData → Option (List Int)
  | [] => some []
  | .int i :: ds => (intsD ds).map (i :: ·)
  | _ :: _ => none
theorem intsD_eq : ∀ {ds : List PyData} {ns : List Int}, intsD ds = some ns → ds = ns.map PyData.int
  | [], ns, e => by cases e; rfl
  | d :: ds, ns, e => by
    cases d with
    | int i =>
      unfold intsD at e
      cases h : intsD ds with
      | none => rw [h] at e; cases e
      | some ms =>
        rw [h] at e
        cases e
        rw [List.map_cons, intsD_eq h]
    | _ => cases e
theorem intsD_map : ∀ ns : List Int, intsD (ns.map PyData.int) = some ns
  | [] => rfl
  | n :: ns => by rw [List.map_cons]; unfold intsD; rw [intsD_map ns]; rfl
def sumD : PyData → Option PyData
  | .list ds => (intsD ds).map fun ns => .int ns.sum
  | _ => none
theorem sp_sum {K : PySem.W.Frag} : Spec1c (rSum K) sumD := fun B σ H S ρ g x d v Q e I r k => by
  cases r with
  | @lst a xs ds h q =>
    have e : (intsD ds).map (fun ns => PyData.int ns.sum) = some d := e
    cases hi : intsD ds with
    | none => rw [hi] at e; cases e
    | some ns =>
      rw [hi] at e
      cases e
      rw [intsD_eq hi] at q
      have ex := q.ints
      subst ex
      exact ⟨a, ns, rfl, .of (I.sub _ _ h), k _ H S I .refl (.int _)⟩
  | _ => cases e
theorem pd_sum {p : Pos} (hc : X.calm = true) (hm : X.mg "sum" = none) (ha : PE X a (tE cls W fa)) (hg : Gl X "sum" := by rfl) (hs : starEach [a] X.env = (false, eval a X.env) :: starEach [] X.env := by rfl) : PE X (.Call (.Name "sum" p) [a] [] pos) (tE cls W (unD sumD fa)) :=
  pd_call1B (cr_sum hc) sp_sum hm boot_sum ha hg (by decide) (by decide) hs
/-- isinstance(a, T), T a built-in type -/
def isT (T : String) : PyData → Bool
  | .bool _ => T == "bool" || T == "int"
  | .int _ => T == "int"
  | .str _ => T == "str"
  | .list _ => T == "list"
  | .tuple _ => T == "tuple"
  | _ => false
@[simp] def isiD (T : String) : PyData → Option PyData := fun d => some (.bool (isT T d))
structure KitOk (T : String) : Prop where
  non : kitB "NoneType" T = some (isT T .none)
  bl : kitB "bool" T = some (isT T (.bool true))
  int : kitB "int" T = some (isT T (.int 0))
  str : kitB "str" T = some (isT T (.str (Str.ofString "")))
  lst : kitB "list" T = some (isT T (.list []))
  tup : kitB "tuple" T = some (isT T (.tuple []))
theorem kit_int : KitOk "int" := ⟨by decide +kernel, by decide +kernel, by decide +kernel, by decide +kernel, by decide +kernel, by decide +kernel⟩
theorem kit_bool : KitOk "bool" := ⟨by decide +kernel, by decide +kernel, by decide +kernel, by decide +kernel, by decide +kernel, by decide +kernel⟩
theorem kit_str : KitOk "str" := ⟨by decide +kernel, by decide +kernel, by decide +kernel, by decide +kernel, by decide +kernel, by decide +kernel⟩
theorem kit_list : KitOk "list" := ⟨by decide +kernel, by decide +kernel, by decide +kernel, by decide +kernel, by decide +kernel, by decide +kernel⟩
theorem kit_tuple : KitOk "tuple" := ⟨by decide +kernel, by decide +kernel, by decide +kernel, by decide +kernel, by decide +kernel, by decide +kernel⟩
theorem sp_isi {K : PySem.W.Frag} {T : String} (kt : KitOk T) : Spec1 (fun v H Q => rIsi K [v, .ty T] H Q) (isiD T) := fun B σ H S ρ g x d v Q e I r k => by
  cases e
  have fin : ∀ {t : String} {b : Bool}, TyOf K H v (.type t) → kitB t T = some b → b = isT T x → rIsi K [v, .ty T] H Q := fun {t b} ty h hb => by
    subst hb
    exact ⟨v, .ty T, _, _, _, rfl, .ty T, .base ty, kit_ty h, k _ H S I .refl (.bl _)⟩
  cases r with
  | non => exact fin .non kt.non rfl
  | bl b => exact fin (.bl b) kt.bl rfl
  | int i => exact fin (.int i) kt.int rfl
  | str z => exact fin (.str z) kt.str rfl
  | lst h q => exact fin (.lst (I.sub _ _ h)) kt.lst rfl
  | tup h q => exact fin (.tup (I.sub _ _ h)) kt.tup rfl
theorem pd_isi {p p' : Pos} {T : Str} {t : String} (kt : KitOk t) (hm : X.mg "isinstance" = none) (hmT : X.mg T = none) (hvT : bootBuiltins T = some (.type t)) (ha : PE X a (tE cls W fa)) (hg : Gl X "isinstance" := by rfl) (hgT : Gl X T := by rfl) (hnT : T ≠ "__name__" := by decide) (hdT : (T == ("__debug__" : Str)) = false := by decide)
    (hs : starEach [a, .Name T p'] X.env = (false, eval a X.env) :: starEach [.Name T p'] X.env := by rfl) (hs2 : starEach [.Name T p'] X.env = (false, eval (.Name T p') X.env) :: starEach [] X.env := by rfl) (hpl : (backTo pos (starEach [.Name T p'] X.env)).any (·.1) = false := by rfl) :
    PE X (.Call (.Name "isinstance" p) [a, .Name T p'] [] pos) (tE cls W (unD (isiD t) fa)) :=
  PE_imp (pe_callB call_isi hg hm boot_isinstance (pa_cons ha (pa_cons (pe_bltn (v := .ty t) hgT hmT hvT rfl hnT hdT) pa_nil hs2) hs) (by decide) (by decide) hs hpl) (un_of (sp_isi kt))
end
end DL

set_option Elab.async false
set_option linter.all false
set_option maxRecDepth 100000
set_option maxHeartbeats 400000
namespace DL
open PySem PySem.Spec PyProof.Rows L2

/-! ### slices -/
abbrev Pa := Nv → G → R (Option Int)
section
variable (cls : Nat → Value) (W : WX)
def PaO (B : Bs) (σ : L2.St) (H S : Hp) (ρ : Nv) (Q : Option Int → Hp → Prop) : R (Option Int) → Prop
  | .ok b g' => ∀ H' S', Good B σ H' S' ρ g' → Gr B H S H' S' → Q b H'
  | .ex n g' => ∀ H' S', Good B σ H' S' ρ g' → Gr B H S H' S' → W (cls n) none σ H'
  | .bad => False
def tP (f : Pa) : L2.TO := fun σ H Q => ∃ B S ρ g, Good B σ H S ρ g ∧ PaO cls W B σ H S ρ Q (f ρ g)
end
section
variable {X : Cx} {cls : Nat → Value} {W : WX} {pos : Pos} {a b c : Expr} {fa fb fc : Ex}
theorem PO_imp {e : Option Expr} {t t' : L2.TO} (h : PO X e t) (hi : ∀ σ H Q, t' σ H Q → t σ H Q) : PO X e t' := ⟨fun pins s σ H Q I q => h.run pins s σ H Q I (hi _ _ _ q)⟩
theorem PaO_gr {B : Bs} {σ : L2.St} {H S H1 S1 : Hp} {ρ : Nv} {Q : Option Int → Hp → Prop} {r : R (Option Int)} (e : Gr B H S H1 S1) (h : PaO cls W B σ H S ρ Q r) : PaO cls W B σ H1 S1 ρ Q r := by
  cases r with
  | ok a g => exact fun H' S' I u => h H' S' I (e.trans u)
  | ex n g => exact fun H' S' I u => h H' S' I (e.trans u)
  | bad => exact h
@[simp] def noPart : Pa := fun _ g => .ok none g
@[simp] def somePart (f : Ex) : Pa := fun ρ g => (f ρ g).bind fun d g1 => match d with
  | .int i => .ok (some i) g1
  | _ => .bad
theorem po_no : PO X none (tP cls W noPart) := PO_imp po_none fun σ H Q ⟨B, S, ρ, g, I, h⟩ => h H S I .refl
theorem po_so (ha : PE X a (tE cls W fa)) : PO X (some a) (tP cls W (somePart fa)) := PO_imp (po_some ha) fun σ H Q ⟨B, S, ρ, g, I, h⟩ => by
  unfold somePart at h
  refine ⟨B, S, ρ, g, I, ?_⟩
  cases ea : fa ρ g with
  | bad => rw [ea] at h; exact h
  | ex n g1 => rw [ea] at h; exact h
  | ok x g1 =>
    rw [ea] at h
    intro v H1 S1 I1 e1 r1
    cases r1 with
    | int i => exact ⟨i, rfl, h H1 S1 I1 e1⟩
    | _ => exact False.elim h
def cutP (xs : List PyData) (lo hi : Option Int) : List PyData := (xs.drop (HT.sIx xs.length 0 lo)).take (HT.sIx xs.length xs.length hi - HT.sIx xs.length 0 lo)
theorem Rps.cut {S : Hp} {vs : List V} {ds : List PyData} (r : Rps S vs ds) (lo hi : Option Int) : Rps S (cutV vs lo hi) (cutP ds lo hi) := by
  unfold cutV cutP
  rw [r.length]
  exact (r.drop _).take _
@[simp] def slD (f : Ex) (lo hi : Pa) : Ex := fun ρ g => (f ρ g).bind fun x g1 => (lo ρ g1).bind fun l g2 => (hi ρ g2).bind fun u g3 => match x with
  | .list ds => .ok (.list (cutP ds l u)) g3
  | .tuple ds => .ok (.tuple (cutP ds l u)) g3
  | _ => .bad
theorem pd_slice {lo hi : Option Expr} {fl fh : Pa} {p2 : Pos} (ha : PE X a (tE cls W fa)) (hl : PO X lo (tP cls W fl)) (hh : PO X hi (tP cls W fh)) : PE X (.Subscript a (.Slice lo hi none p2) pos) (tE cls W (slD fa fl fh)) :=
  PE_imp (pe_slice (SlR.or sl_list sl_tupA) ha hl hh) fun σ H Q ⟨B, S, ρ, g, I, h⟩ => by
    unfold slD at h
    refine ⟨B, S, ρ, g, I, ?_⟩
    cases ea : fa ρ g with
    | bad => rw [ea] at h; exact h
    | ex n g1 => rw [ea] at h; exact h
    | ok x g1 =>
      rw [ea] at h
      intro v H1 S1 I1 e1 r1
      refine ⟨B, S1, ρ, g1, I1, ?_⟩
      have h' := EO_gr e1 h
      simp only [R.bind_ok] at h'
      cases eb : fl ρ g1 with
      | bad => rw [eb] at h'; exact h'
      | ex n g2 => rw [eb] at h'; exact h'
      | ok l g2 =>
        rw [eb] at h'
        simp only [R.bind_ok] at h'
        intro H2 S2 I2 e2
        refine ⟨B, S2, ρ, g2, I2, ?_⟩
        have h2 := EO_gr e2 h'
        cases ec : fh ρ g2 with
        | bad => rw [ec] at h2; exact h2
        | ex n g3 => rw [ec] at h2; exact h2
        | ok u g3 =>
          rw [ec] at h2
          simp only [R.bind_ok] at h2
          intro H3 S3 I3 e3
          have h3 := EO_gr e3 h2
          have r3 := (r1.mono e2.base).mono e3.base
          cases r3 with
          | @lst p xs ds hx qx =>
            refine .inl ⟨p, xs, rfl, .of (I3.sub _ _ hx), fun q hq => ?_⟩
            obtain ⟨I4, e4⟩ := I3.alloc (o := .lst (cutV xs l u)) hq
            exact h3 _ _ _ I4 e4 (.lst upd_same ((qx.cut l u).mono e4.base))
          | @tup p xs ds hx qx =>
            refine .inr ⟨p, xs, rfl, .of (I3.sub _ _ hx), fun hw => ?_, fun hw q hq => ?_⟩
            · have ec : cutP ds l u = ds := by
                unfold cutP
                rw [qx.length] at hw
                rw [hw.1, hw.2]
                simp
              have h4 := h3 (.ref p) H3 S3 I3 .refl
              rw [ec] at h4
              exact h4 (.tup hx qx)
            · obtain ⟨I4, e4⟩ := I3.alloc (o := .tup (cutV xs l u)) hq
              exact h3 _ _ _ I4 e4 (.tup upd_same ((qx.cut l u).mono e4.base))
          | _ => exact False.elim h3
end

/-! ### what is walked -/
/-- a step of a walk: the heap as it was, or with one more shared object -/
inductive Gr1 (H S : Hp) : Hp → Hp → Prop
  | same : Gr1 H S H S
  | new {p : Addr} {o : HO} : H p = none → Gr1 H S (upd H p o) (upd S p o)
theorem Gr1.good {B : Bs} {σ : L2.St} {H S H' S' : Hp} {ρ : Nv} {g : G} (e : Gr1 H S H' S') (I : Good B σ H S ρ g) : Good B σ H' S' ρ g ∧ Gr B H S H' S' := by
  cases e with
  | same => exact ⟨I, .refl⟩
  | new h => exact I.alloc h
structure ItOk (J : It) (S : Hp) (ds : List PyData) : Prop where
  go : ∀ i H, i < ds.length → Same S H → J.go i H
  stop : ∀ i H, ds.length ≤ i → Same S H → J.stop i H
  yld : ∀ i H S' x H', i < ds.length → Same S S' → Same S' H → J.yld i H x H' → ∃ d S2, ds[i]? = some d ∧ Gr1 H S' H' S2 ∧ Rp S2 x d
section
variable (cls : Nat → Value) (W : WX)
def IO (B : Bs) (σ : L2.St) (H S : Hp) (ρ : Nv) (Q : It → Hp → Prop) : R (List PyData) → Prop
  | .ok ds g' => ∀ J H' S', Good B σ H' S' ρ g' → Gr B H S H' S' → ItOk J S' ds → Q J H'
  | .ex n g' => ∀ H' S', Good B σ H' S' ρ g' → Gr B H S H' S' → W (cls n) none σ H'
  | .bad => False
def tI (f : Ar) : TI := fun σ H Q => ∃ B S ρ g, Good B σ H S ρ g ∧ IO cls W B σ H S ρ Q (f ρ g)
end
section
variable {X : Cx} {cls : Nat → Value} {W : WX} {pos : Pos} {a b c tg : Expr} {fa fb fc : Ex}
@[simp] def itemsD (f : Ex) : Ar := fun ρ g => (f ρ g).bind fun d g1 => match d with
  | .list ds => .ok ds g1
  | .tuple ds => .ok ds g1
  | _ => .bad
theorem it_list {K : PySem.W.Frag} {S : Hp} {p : Addr} {xs : List V} {ds : List PyData} (hx : S p = some (.lst xs)) (q : Rps S xs ds) : ItOk (Itl K p) S ds := by
  refine ⟨fun i H hi hs => ?_, fun i H hi hs => ⟨xs, .of (hs _ _ hx), by rw [q.length]; exact hi⟩, fun i H S' x H' hi h1 h2 hy => ?_⟩
  · obtain ⟨v, hv, _⟩ := q.getD (List.getElem?_eq_getElem hi)
    exact ⟨xs, v, .of (hs _ _ hx), hv⟩
  · obtain ⟨rfl, hy⟩ := hy
    obtain ⟨d, hd, r⟩ := q.get (hy xs (.of (h2 _ _ (h1 _ _ hx))))
    exact ⟨d, S', hd, .same, r.mono h1⟩
theorem it_tup {K : PySem.W.Frag} {S : Hp} {p : Addr} {xs : List V} {ds : List PyData} (hx : S p = some (.tup xs)) (q : Rps S xs ds) : ItOk (Itt K p) S ds := by
  refine ⟨fun i H hi hs => ?_, fun i H hi hs => ⟨xs, .of (hs _ _ hx), by rw [q.length]; exact hi⟩, fun i H S' x H' hi h1 h2 hy => ?_⟩
  · obtain ⟨v, hv, _⟩ := q.getD (List.getElem?_eq_getElem hi)
    exact ⟨xs, v, .of (hs _ _ hx), hv⟩
  · obtain ⟨rfl, hy⟩ := hy
    obtain ⟨d, hd, r⟩ := q.get (hy xs (.of (h2 _ _ (h1 _ _ hx))))
    exact ⟨d, S', hd, .same, r.mono h1⟩
theorem pid_seq (ha : PE X a (tE cls W fa)) : PI X tg a (tI cls W (itemsD fa)) := by
  refine ⟨fun pins s σ H Q I0 h => ?_⟩
  obtain ⟨B, S, ρ, g, I, h⟩ := h
  unfold itemsD at h
  cases ea : fa ρ g with
  | bad => rw [ea] at h; exact False.elim h
  | ex n g1 =>
    rw [ea] at h
    refine (pi_list ha).run pins s σ H Q I0 ⟨B, S, ρ, g, I, ?_⟩
    rw [ea]
    exact h
  | ok x g1 =>
    rw [ea] at h
    simp only [R.bind_ok] at h
    cases x with
    | list ds =>
      refine (pi_list ha).run pins s σ H Q I0 ⟨B, S, ρ, g, I, ?_⟩
      rw [ea]
      intro v H1 S1 I1 e1 r1
      cases r1 with
      | @lst p xs ds hx qx => exact ⟨p, rfl, ⟨xs, .of (I1.sub _ _ hx)⟩, h _ H1 S1 I1 e1 (it_list hx qx)⟩
    | tuple ds =>
      refine (pi_tup ha).run pins s σ H Q I0 ⟨B, S, ρ, g, I, ?_⟩
      rw [ea]
      intro v H1 S1 I1 e1 r1
      cases r1 with
      | @tup p xs ds hx qx => exact ⟨p, rfl, ⟨xs, .of (I1.sub _ _ hx)⟩, h _ H1 S1 I1 e1 (it_tup hx qx)⟩
    | _ => exact False.elim h
def upFrom (lo : Int) (n : Nat) : List PyData := (List.range n).map fun (k : Nat) => PyData.int (lo + (k : Int))
theorem it_rng (S : Hp) (lo : Int) (n : Nat) : ItOk (Itr lo n) S (upFrom lo n) := by
  have hl : (upFrom lo n).length = n := by unfold upFrom; rw [List.length_map, List.length_range]
  refine ⟨fun i H hi _ => by rw [hl] at hi; exact hi, fun i H hi _ => by rw [hl] at hi; exact hi, fun i H S' x H' hi h1 h2 hy => ?_⟩
  obtain ⟨rfl, rfl⟩ := hy
  rw [hl] at hi
  refine ⟨.int (lo + (i : Int)), S', ?_, .same, .int _⟩
  unfold upFrom
  rw [List.getElem?_map, List.getElem?_range hi]
  rfl
@[simp] def rangeD (f : Ex) : Ar := fun ρ g => (f ρ g).bind fun d g1 => match d with
  | .int n => if n ≤ (big : Int) ∧ -(big : Int) ≤ n then .ok (upFrom 0 n.toNat) g1 else .bad
  | _ => .bad
theorem pid_range {p : Pos} (hm : X.mg "range" = none) (ha : PE X a (tE cls W fa)) (hg : Gl X "range" := by rfl) (hs : starEach [a] X.env = [(false, eval a X.env)] := by rfl) : PI X tg (.Call (.Name "range" p) [a] [] pos) (tI cls W (rangeD fa)) := by
  refine ⟨fun pins s σ H Q I0 h => (pi_range1 hg hm (pa_cons ha pa_nil hs) hs).run pins s σ H Q I0 ?_⟩
  obtain ⟨B, S, ρ, g, I, h⟩ := h
  unfold rangeD at h
  refine ⟨B, S, ρ, g, I, ?_⟩
  cases ea : fa ρ g with
  | bad => rw [ea] at h; exact False.elim h
  | ex n g1 => rw [ea] at h; exact h
  | ok x g1 =>
    rw [ea] at h
    simp only [R.bind_ok] at h
    intro v H1 S1 I1 e1 r1
    cases r1 with
    | int n =>
      simp only at h
      by_cases hn : n ≤ (big : Int) ∧ -(big : Int) ≤ n
      · rw [if_pos hn] at h
        have hb : (big : Int) = 1000000 := rfl
        exact ⟨n, rfl, by omega, by omega, h _ H1 S1 I1 e1 (it_rng S1 0 n.toNat)⟩
      · rw [if_neg hn] at h
        exact False.elim h
    | _ => exact False.elim h
@[simp] def range2D (f f2 : Ex) : Ar := fun ρ g => (f ρ g).bind fun d g1 => (f2 ρ g1).bind fun e g2 => match d, e with
  | .int n, .int m => if n ≤ (big : Int) ∧ -(big : Int) ≤ n ∧ m ≤ (big : Int) ∧ -(big : Int) ≤ m then .ok (upFrom n (m - n).toNat) g2 else .bad
  | _, _ => .bad
theorem pid_range2 {p : Pos} (hm : X.mg "range" = none) (ha : PE X a (tE cls W fa)) (hb : PE X b (tE cls W fb)) (hg : Gl X "range" := by rfl) (hs : starEach [a, b] X.env = [(false, eval a X.env), (false, eval b X.env)] := by rfl) (hs2 : starEach [b] X.env = [(false, eval b X.env)] := by rfl) (hs3 : starEach [a, b] X.env = (false, eval a X.env) :: starEach [b] X.env := by rfl) (hs4 : starEach [b] X.env = (false, eval b X.env) :: starEach [] X.env := by rfl) :
    PI X tg (.Call (.Name "range" p) [a, b] [] pos) (tI cls W (range2D fa fb)) := by
  refine ⟨fun pins s σ H Q I0 h => (pi_range2 hg hm (pa_cons ha (pa_cons hb pa_nil hs4) hs3) hs hs2).run pins s σ H Q I0 ?_⟩
  obtain ⟨B, S, ρ, g, I, h⟩ := h
  unfold range2D at h
  refine ⟨B, S, ρ, g, I, ?_⟩
  cases ea : fa ρ g with
  | bad => rw [ea] at h; exact False.elim h
  | ex n g1 => rw [ea] at h; exact h
  | ok x g1 =>
    rw [ea] at h
    simp only [R.bind_ok] at h
    intro v H1 S1 I1 e1 r1
    refine ⟨B, S1, ρ, g1, I1, ?_⟩
    cases eb : fb ρ g1 with
    | bad => rw [eb] at h; exact False.elim h
    | ex n g2 =>
      rw [eb] at h
      exact fun H' S' I' e' => h H' S' I' (e1.trans e')
    | ok y g2 =>
      rw [eb] at h
      simp only [R.bind_ok] at h
      intro u H2 S2 I2 e2 r2
      cases r1 with
      | int n =>
        cases r2 with
        | int m =>
          simp only at h
          by_cases hn : n ≤ (big : Int) ∧ -(big : Int) ≤ n ∧ m ≤ (big : Int) ∧ -(big : Int) ≤ m
          · rw [if_pos hn] at h
            have hb : (big : Int) = 1000000 := rfl
            exact ⟨n, m, rfl, ⟨by omega, by omega, by omega, by omega⟩, h _ H2 S2 I2 (e1.trans e2) (it_rng S2 n (m - n).toNat)⟩
          · rw [if_neg hn] at h
            exact False.elim h
        | _ => exact False.elim h
      | _ => exact False.elim h
end

/-! ### targets -/
/-- only these slots have changed -/
structure Chg (ts : List Nat) (σ σ' : L2.St) : Prop where
  len : σ'.length = σ.length
  out : ∀ i, i ∉ ts → σ'[i]? = σ[i]?
theorem wipe_in : ∀ {vs : List Nat} {σ : L2.St} {i : Nat}, i ∈ vs → i < σ.length → (wipe σ vs)[i]? = some none
  | v :: vs, σ, i, h, hl => by
    unfold wipe
    by_cases hv : v = i
    · subst hv
      exact List.getElem?_set_self (by rw [wipe_length]; exact hl)
    · rw [List.getElem?_set_ne hv]
      exact wipe_in ((List.mem_cons.mp h).resolve_left fun z => hv z.symm) hl
theorem Chg.wipe {ts vs : List Nat} {σ σ' : L2.St} (c : Chg ts σ σ') (h : ∀ i ∈ ts, i ∈ vs) : L2.wipe σ' vs = L2.wipe σ vs := by
  refine List.ext_getElem? fun i => ?_
  by_cases hi : i ∈ vs
  · by_cases hl : i < σ.length
    · rw [wipe_in hi hl, wipe_in hi (by rw [c.len]; exact hl)]
    · rw [List.getElem?_eq_none (by rw [wipe_length, c.len]; exact Nat.le_of_not_lt hl), List.getElem?_eq_none (by rw [wipe_length]; exact Nat.le_of_not_lt hl)]
  · rw [wipe_out hi, wipe_out hi]
    exact c.out i fun z => hi (h i z)
abbrev Tg := PyData → Nv → Option Nv
def tG (ts : List Nat) (f : Tg) : TG := fun v σ H Q => ∃ B S ρ g d ρ', Good B σ H S ρ g ∧ Rp S v d ∧ f d ρ = some ρ' ∧ ∀ σ', Good B σ' H S ρ' g → Chg ts σ σ' → Q σ' H
theorem Good.setSh {B : Bs} {σ : L2.St} {H S : Hp} {ρ : Nv} {g : G} (I : Good B σ H S ρ g) (i : Nat) {v : V} {d : PyData} (r : Rp S v d) : Good B (σ.set i (some v)) H S (ρ.set i (.sh d)) g := by
  have key : ∀ (j : Nat) (z : Sl), (ρ.set i (.sh d))[j]? = some z → (j = i ∧ z = .sh d ∧ i < ρ.length) ∨ (j ≠ i ∧ ρ[j]? = some z) := fun j z h => by
    by_cases hj : j = i
    · subst hj
      by_cases hl : j < ρ.length
      · rw [List.getElem?_set_self hl] at h
        exact .inl ⟨rfl, (Option.some.inj h).symm, hl⟩
      · rw [List.getElem?_eq_none (by rw [List.length_set]; exact Nat.le_of_not_lt hl)] at h
        cases h
    · rw [List.getElem?_set_ne (Ne.symm hj)] at h
      exact .inr ⟨hj, h⟩
  have at_ne : ∀ j, j ≠ i → (σ.set i (some v))[j]? = σ[j]? := fun j hj => List.getElem?_set_ne (Ne.symm hj)
  refine ⟨I.toFin, by rw [List.length_set, List.length_set]; exact I.len, fun j d' h => ?_, fun j h => ?_, fun j h => ?_, fun j b h => ?_, fun j l b c a h1 h2 h3 h4 => ?_, I.mxSame fun j b h => ?_⟩
  · rcases key j _ h with ⟨rfl, e, hl⟩ | ⟨hj, h⟩
    · cases e
      exact ⟨v, List.getElem?_set_self (by rw [I.len]; exact hl), r⟩
    · rw [at_ne j hj]; exact I.sh j d' h
  · rcases key j _ h with ⟨rfl, e, hl⟩ | ⟨hj, h⟩
    · cases e
    · rw [at_ne j hj]; exact I.dw j h
  · rcases key j _ h with ⟨rfl, e, hl⟩ | ⟨hj, h⟩
    · cases e
    · rw [at_ne j hj]; exact I.sw j h
  · rcases key j _ h with ⟨rfl, e, hl⟩ | ⟨hj, h⟩
    · cases e
    · rw [at_ne j hj]; exact I.ow j b h
  · rcases key j _ h1 with ⟨rfl, e, hl⟩ | ⟨hj, h1⟩
    · cases e
    · rcases key l _ h2 with ⟨rfl, e, hl⟩ | ⟨hl, h2⟩
      · cases e
      · rw [at_ne j hj] at h3
        rw [at_ne l hl] at h4
        exact I.ap j l b c a h1 h2 h3 h4
  · rcases key j _ h with ⟨rfl, e, hl⟩ | ⟨hj, h⟩
    · cases e
    · exact ⟨h, at_ne j hj⟩
theorem chg_set (σ : L2.St) (i : Nat) (v : Option V) : Chg [i] σ (σ.set i v) := ⟨List.length_set, fun j hj => List.getElem?_set_ne fun z => hj (by rw [z]; exact List.mem_cons_self)⟩
theorem Chg.trans {ts us : List Nat} {σ σ1 σ2 : L2.St} (a : Chg ts σ σ1) (b : Chg us σ1 σ2) : Chg (ts ++ us) σ σ2 := ⟨b.len.trans a.len, fun i hi => (b.out i fun z => hi (List.mem_append_right _ z)).trans (a.out i fun z => hi (List.mem_append_left _ z))⟩
@[simp] def nameT (i : Nat) : Tg := fun d ρ => some (ρ.set i (.sh d))
abbrev Tgs := List PyData → Nv → Option Nv
@[simp] def nilT : Tgs := fun ds ρ => match ds with
  | [] => some ρ
  | _ => none
@[simp] def consT (t : Tg) (u : Tgs) : Tgs := fun ds ρ => match ds with
  | d :: r => (t d ρ).bind fun ρ1 => u r ρ1
  | _ => none
@[simp] def tupT (u : Tgs) : Tg := fun d ρ => match d with
  | .tuple ds => u ds ρ
  | _ => none
def tGs (ts : List Nat) (f : Tgs) : TGs := fun vs σ H Q => ∃ B S ρ g ds ρ', Good B σ H S ρ g ∧ Rps S vs ds ∧ f ds ρ = some ρ' ∧ ∀ σ', Good B σ' H S ρ' g → Chg ts σ σ' → Q σ' H
section
variable {X : Cx} {pos : Pos}
theorem PG_imp {e : Expr} {t t' : TG} (h : PG X e t) (hi : ∀ v σ H Q, t' v σ H Q → t v σ H Q) : PG X e t' := ⟨fun pins s σ H v u Q I r q => h.run pins s σ H v u Q I r (hi _ _ _ _ q)⟩
theorem PGs_imp {e : List Expr} {t t' : TGs} (h : PGs X e t) (hi : ∀ v σ H Q, t' v σ H Q → t v σ H Q) : PGs X e t' := ⟨fun pins s σ H v u Q I r q => h.run pins s σ H v u Q I r (hi _ _ _ _ q)⟩
theorem pgd_name (i : Nat) {x : Str} (hN : X.N.Nodup) (hi : X.N[i]? = some x := by rfl) (hx : Loc X.env.scope x := by first | exact Or.inl rfl | exact Or.inr rfl) (hf : X.fn x = true ∨ X.env.scope.names.lookup x = some .local := by first | exact .inl rfl | exact .inr rfl | assumption) :
    PG X (.Name x pos) (tG [i] (nameT i)) := PG_imp (pg_name hN hi hx hf) fun v σ H Q ⟨B, S, ρ, g, d, ρ', I, r, e, k⟩ => by
  cases e
  exact k _ (I.setSh i r) (chg_set σ i _)
theorem pgsd_nil : PGs X [] (tGs [] nilT) := PGs_imp pgs_nil fun v σ H Q ⟨B, S, ρ, g, d, ρ', I, r, e, k⟩ => by
  cases r with
  | nil => cases e; exact ⟨rfl, k _ I ⟨rfl, fun _ _ => rfl⟩⟩
  | cons _ _ => cases e
theorem pgsd_cons {e : Expr} {es : List Expr} {t : Tg} {u : Tgs} {ts us : List Nat} (h1 : PG X e (tG ts t)) (h2 : PGs X es (tGs us u)) (hs : (assignEach (e :: es) X.env).map (·.2) = assign e X.env :: (assignEach es X.env).map (·.2) := by rfl) :
    PGs X (e :: es) (tGs (ts ++ us) (consT t u)) := PGs_imp (pgs_cons h1 h2 hs) fun v σ H Q ⟨B, S, ρ, g, ds, ρ', I, r, e, k⟩ => by
  cases r with
  | nil => cases e
  | @cons v1 d1 vs1 ds1 r1 rr =>
    have e' : (t d1 ρ).bind (fun ρ1 => u ds1 ρ1) = some ρ' := e
    cases et : t d1 ρ with
    | none => rw [et] at e'; cases e'
    | some ρ1 =>
      rw [et] at e'
      exact ⟨v1, vs1, rfl, B, S, ρ, g, d1, ρ1, I, r1, et, fun σ1 I1 c1 => ⟨B, S, ρ1, g, ds1, ρ', I1, rr, e', fun σ2 I2 c2 => k σ2 I2 (c1.trans c2)⟩⟩
theorem pgd_tup {es : List Expr} {k : Nat} {u : Tgs} {us : List Nat} {n : Nat} (hc : X.calm = true) (h : PGs X es (tGs us u)) (hu : ∀ ds ρ ρ', u ds ρ = some ρ' → ds.length = n)
    (hn : (assignEach es X.env).length = n := by rfl) (hst : (assignEach es X.env).findIdx? (·.1) = none := by rfl) : PG X (.Tuple es k pos) (tG us (tupT u)) := PG_imp (pg_tup hc h hn hst) fun v σ H Q ⟨B, S, ρ, g, d, ρ', I, r, e, k⟩ => by
  cases r with
  | @tup a xs ds hx qx => exact ⟨a, xs, rfl, .of (I.sub _ _ hx), qx.length.trans (hu ds ρ ρ' e), B, S, ρ, g, ds, ρ', I, qx, e, k⟩
  | _ => cases e
end
theorem len2 {i j : Nat} (ds : List PyData) (ρ ρ' : Nv) (h : consT (nameT i) (consT (nameT j) nilT) ds ρ = some ρ') : ds.length = 2 := by
  match ds, h with
  | [_, _], _ => rfl
  | [], h => cases h
  | [_], h => cases h
  | _ :: _ :: _ :: _, h => cases h
theorem len3 {i j k : Nat} (ds : List PyData) (ρ ρ' : Nv) (h : consT (nameT i) (consT (nameT j) (consT (nameT k) nilT)) ds ρ = some ρ') : ds.length = 3 := by
  match ds, h with
  | [_, _, _], _ => rfl
  | [], h => cases h
  | [_], h => cases h
  | [_, _], h => cases h
  | _ :: _ :: _ :: _ :: _, h => cases h
theorem len4 {i j k l : Nat} (ds : List PyData) (ρ ρ' : Nv) (h : consT (nameT i) (consT (nameT j) (consT (nameT k) (consT (nameT l) nilT))) ds ρ = some ρ') : ds.length = 4 := by
  match ds, h with
  | [_, _, _, _], _ => rfl
  | [], h => cases h
  | [_], h => cases h
  | [_, _], h => cases h
  | [_, _, _], h => cases h
  | _ :: _ :: _ :: _ :: _ :: _, h => cases h

/-! ### list comprehensions -/
@[simp] def wipeD (ρ : Nv) : List Nat → Nv
  | [] => ρ
  | v :: vs => (wipeD ρ vs).set v .no
theorem Good.setNo {B : Bs} {σ : L2.St} {H S : Hp} {ρ : Nv} {g : G} (I : Good B σ H S ρ g) (i : Nat) (v : Option V) : Good B (σ.set i v) H S (ρ.set i .no) g := by
  have key : ∀ (j : Nat) (z : Sl), z ≠ .no → (ρ.set i .no)[j]? = some z → j ≠ i ∧ ρ[j]? = some z := fun j z hz h => by
    by_cases hj : j = i
    · subst hj
      by_cases hl : j < ρ.length
      · rw [List.getElem?_set_self hl] at h
        exact absurd (Option.some.inj h).symm hz
      · rw [List.getElem?_eq_none (by rw [List.length_set]; exact Nat.le_of_not_lt hl)] at h
        cases h
    · rw [List.getElem?_set_ne (Ne.symm hj)] at h
      exact ⟨hj, h⟩
  have at_ne : ∀ j, j ≠ i → (σ.set i v)[j]? = σ[j]? := fun j hj => List.getElem?_set_ne (Ne.symm hj)
  refine ⟨I.toFin, by rw [List.length_set, List.length_set]; exact I.len, fun j d' h => ?_, fun j h => ?_, fun j h => ?_, fun j b h => ?_, fun j l b c a h1 h2 h3 h4 => ?_, I.mxSame fun j b h => ?_⟩
  · obtain ⟨hj, h⟩ := key j (.sh d') (fun z => nomatch z) h
    rw [at_ne j hj]; exact I.sh j d' h
  · obtain ⟨hj, h⟩ := key j .dr (fun z => nomatch z) h
    rw [at_ne j hj]; exact I.dw j h
  · obtain ⟨hj, h⟩ := key j .sc (fun z => nomatch z) h
    rw [at_ne j hj]; exact I.sw j h
  · obtain ⟨hj, h⟩ := key j (.ow b) (fun z => nomatch z) h
    rw [at_ne j hj]; exact I.ow j b h
  · obtain ⟨hj, h1⟩ := key j (.ow b) (fun z => nomatch z) h1
    obtain ⟨hl, h2⟩ := key l (.ow c) (fun z => nomatch z) h2
    rw [at_ne j hj] at h3
    rw [at_ne l hl] at h4
    exact I.ap j l b c a h1 h2 h3 h4
  · obtain ⟨hj, h⟩ := key j (.ow b) (fun z => nomatch z) h
    exact ⟨h, at_ne j hj⟩
theorem Good.wiped {B : Bs} {σ : L2.St} {H S : Hp} {ρ : Nv} {g : G} (I : Good B σ H S ρ g) : ∀ vs : List Nat, Good B (wipe σ vs) H S (wipeD ρ vs) g
  | [] => I
  | v :: vs => (I.wiped vs).setNo v none
/-- a slot set or an evaluation does not need the other slots: the state of the outer slots behind growth -/
theorem Good.back {B : Bs} {σ σ1 : L2.St} {H S H1 S1 : Hp} {ρ ρ1 : Nv} {g g1 : G} (I : Good B σ H S ρ g) (I1 : Good B σ1 H1 S1 ρ1 g1) (e : Gr B H S H1 S1) : Good B σ H1 S1 ρ g1 := I.grow e I1.sub I1.dr
def compD (tg : Tg) (cond : Te) (elt : Ex) : List PyData → Nv → G → R (List PyData)
  | [], _, g => .ok [] g
  | d :: ds, ρ, g => match tg d ρ with
    | none => .bad
    | some ρ1 => match cond ρ1 g with
      | .ok true g1 => match elt ρ1 g1 with
        | .ok x g2 => (compD tg cond elt ds ρ g2).bind fun xs g3 => .ok (x :: xs) g3
        | _ => .bad
      | .ok false g1 => compD tg cond elt ds ρ g1
      | _ => .bad
@[simp] def yesT : Te := fun _ g => .ok true g
@[simp] def lcO (fi : Ar) (own : List Nat) (tg : Tg) (cond : Te) (elt : Ex) : Ow := fun ρ g => (fi ρ g).bind fun ds g1 => if ds.length ≤ big then (compD tg cond elt ds (wipeD ρ own) g1).bind fun xs g2 => .ok (.lst xs) g2 else .bad
theorem compD_noex {tg : Tg} {cond : Te} {elt : Ex} : ∀ {ds : List PyData} {ρ : Nv} {g g' : G} {n : Nat}, compD tg cond elt ds ρ g ≠ .ex n g'
  | [], ρ, g, g', n, h => by cases h
  | d :: ds, ρ, g, g', n, h => by
    unfold compD at h
    split at h
    · cases h
    · split at h
      · split at h
        · rename_i x g2 _
          cases e : compD tg cond elt ds _ g2 with
          | ok a g3 => rw [e] at h; cases h
          | ex n2 g3 => exact compD_noex e
          | bad => rw [e] at h; cases h
        · cases h
      · exact compD_noex h
      · cases h
/-- no exception may leave a comprehension's step -/
abbrev W0 : WX := fun _ _ _ _ => False
section
variable {X : Cx} {cls : Nat → Value} {W : WX} {pos : Pos}
theorem PTs_imp {e : List Expr} {t t' : TT} (h : PTs X e t) (hi : ∀ σ H Q, t' σ H Q → t σ H Q) : PTs X e t' := ⟨fun pins s σ H Q I q => h.run pins s σ H Q I (hi _ _ _ q)⟩
theorem ptsd_nil : PTs X [] (tT cls W yesT) := PTs_imp pts_nil fun σ H Q ⟨B, S, ρ, g, I, h⟩ => h H S I .refl
theorem ptsd_one {c : Expr} {f : Te} (h : PT X c (tT cls W f)) : PTs X [c] (tT cls W f) := pts_one h
/-- the reading of a comprehension -/
theorem lc_of {ts own : List Nat} {fi : Ar} {tg : Tg} {cond : Te} {elt : Ex} (hts : ∀ i ∈ ts, i ∈ own) (σ : L2.St) (H : Hp) (Q : VK) (h : tO cls W (lcO fi own tg cond elt) σ H Q) :
    tLc (tI cls W fi) (tG ts tg) (tT cls W0 cond) (tE cls W0 elt) own σ H Q := by
  obtain ⟨B, S, ρ, g, I, h⟩ := h
  unfold lcO at h
  refine ⟨B, S, ρ, g, I, ?_⟩
  cases ei : fi ρ g with
  | bad => rw [ei] at h; exact h
  | ex n g1 => rw [ei] at h; exact h
  | ok ds g1 =>
    rw [ei] at h
    simp only [R.bind_ok] at h
    by_cases hz : ds.length ≤ big
    · rw [if_pos hz] at h
      intro J H1 S1 I1 e1 it D hD
      have nD : H D = none := none_back e1 hD
      have hDA : B.live = true → D ≠ B.A := fun hl z => I1.neA hD hl z.symm
      obtain ⟨I2, e2⟩ := I1.allocO (o := .lst []) hD
      -- the walk's state: the list so far, what is left
      refine ⟨fun i m H' => i + m = ds.length ∧ ∃ S' g' vs xs, Good B σ H' S' ρ g' ∧ Gr B (upd H1 D (.lst [])) S1 (upd H' D (.lst [])) S' ∧ H' D = some (.lst vs) ∧ S' D = none ∧ Rps S' vs xs ∧ vs.length ≤ i ∧
        OO cls W B σ H S ρ Q ((compD tg cond elt (ds.drop i) (wipeD ρ own) g').bind fun ys g2 => .ok (.lst (xs ++ ys)) g2), ?_, ?_⟩
      · exact ⟨ds.length, by omega, S1, g1, [], [], I2, by rw [upd_upd]; exact .refl, upd_same, I1.stay hD, .nil, Nat.le_refl _, h⟩
      · rintro i m H' ⟨him, S', g', vs, xs, I3, e3, hv, sD, rv, hvl, h3⟩
        have e3' : Same S1 S' := e3.base
        by_cases hi : i < ds.length
        · refine .inr ⟨it.go i H' hi (e3'.trans I3.sub), fun H'' => ∃ m', m' < m ∧ (i + 1 + m' = ds.length ∧ ∃ S' g' vs xs, Good B σ H'' S' ρ g' ∧ Gr B (upd H1 D (.lst [])) S1 (upd H'' D (.lst [])) S' ∧ H'' D = some (.lst vs) ∧ S' D = none ∧ Rps S' vs xs ∧ vs.length ≤ i + 1 ∧
            OO cls W B σ H S ρ Q ((compD tg cond elt (ds.drop (i + 1)) (wipeD ρ own) g').bind fun ys g2 => .ok (.lst (xs ++ ys)) g2)), fun H'' z => z, fun x H4 hy => ?_⟩
          obtain ⟨d, S4, hd, gr1, rd⟩ := it.yld i H' S' x H4 hi e3' I3.sub hy
          obtain ⟨I4, e4⟩ := gr1.good I3
          have hdrop : ds.drop i = d :: ds.drop (i + 1) := by
            rw [List.drop_eq_getElem_cons hi]
            rw [List.getElem?_eq_getElem hi] at hd
            rw [Option.some.inj hd]
          rw [hdrop] at h3
          unfold compD at h3
          -- growth goes on beside D
          have step : ∀ {H5 S5 : Hp}, Gr B H' S' H5 S5 → Gr B (upd H1 D (.lst [])) S1 (upd H5 D (.lst [])) S5 := fun {H5 S5} e => by
            refine e3.trans ⟨fun a o q n => ?_, e.base, fun a q => ?_, fun a q => ?_⟩
            · by_cases ha : a = D
              · subst ha; rw [upd_same] at q ⊢; exact q
              · rw [upd_ne ha] at q ⊢; exact e.keep a o q n
            · rcases e.new a q with z | z
              · exact .inl z
              · by_cases ha : a = D
                · subst ha; rw [hv] at z; cases z
                · exact .inr (by rw [upd_ne ha]; exact z)
            · by_cases ha : a = D
              · subst ha; rw [upd_same]; simp
              · rw [upd_ne ha] at q ⊢; exact e.there a q
          cases et : tg d (wipeD ρ own) with
          | none => simp only [et, R.bind_bad] at h3; exact False.elim h3
          | some ρ1 =>
            simp only [et] at h3
            refine ⟨B, S4, wipeD ρ own, g', d, ρ1, I4.wiped own, rd, et, fun σ1 I5 ch => ⟨by rw [ch.wipe hts]; exact (Chg.wipe (ts := own) ⟨by rw [wipe_length], fun j hj => wipe_out hj⟩ fun _ z => z), B, S4, ρ1, g', I5, ?_⟩⟩
            cases ec : cond ρ1 g' with
            | bad => simp only [ec, R.bind_bad] at h3; exact False.elim h3
            | ex n g5 => simp only [ec, R.bind_bad] at h3; exact False.elim h3
            | ok b g5 =>
              intro H6 S6 I6 e6
              have I6' := (I4.back I6 e6)
              have e46 : Gr B H' S' H6 S6 := e4.trans e6
              cases b with
              | false =>
                rw [if_neg Bool.false_ne_true]
                simp only [ec] at h3
                exact ⟨m - 1, by omega, by omega, S6, g5, vs, xs, I6', step e46, e46.keep D _ hv hDA, none_of e46 (by rw [hv]; simp) sD, rv.mono e46.base, by omega, h3⟩
              | true =>
                rw [if_pos rfl]
                simp only [ec] at h3
                refine ⟨B, S6, ρ1, g5, I6, ?_⟩
                cases ee : elt ρ1 g5 with
                | bad => simp only [ee, R.bind_bad] at h3; exact False.elim h3
                | ex n g6 => simp only [ee, R.bind_bad] at h3; exact False.elim h3
                | ok y g6 =>
                  simp only [ee] at h3
                  intro v H7 S7 I7 e7 r7
                  have I7' := I6'.back I7 e7
                  have e77 : Gr B H' S' H7 S7 := e46.trans e7
                  have hD7 := e77.keep D _ hv hDA
                  have sD7 := none_of e77 (by rw [hv]; simp) sD
                  refine ⟨vs, hD7, big_lt (by omega), m - 1, by omega, by omega, S7, g6, vs ++ [v], xs ++ [y], ?_, by rw [upd_upd]; exact step e77, upd_same, sD7, (rv.mono e77.base).append (.cons r7 .nil), by rw [List.length_append]; exact Nat.succ_le_succ hvl, ?_⟩
                  · -- the list at D is nobody's
                    have eD : Gr B H7 S7 (upd H7 D (.lst (vs ++ [v]))) S7 ∨ True := .inr trivial
                    refine ⟨⟨fun a o q => ?_, fun a o q n => ?_, I7'.base, I7'.new, fun a q => ?_, I7'.no, ?_⟩, I7'.len, I7'.sh, I7'.dw, I7'.sw, fun j b q => ?_, I7'.ap, I7'.mxMove (Same.refl _) (fun i b h => ⟨⟨b, h⟩, rfl⟩) (fun i rows h => h) (fun j rows a' q k => ?_) fun j rows a' cs _ q k k3 x hx => ?_⟩
                    · rw [upd_ne (ne_of_none q sD7)]; exact I7'.sub _ _ q
                    · have hB : B.H D = none := by
                        cases z : B.H D with
                        | none => rfl
                        | some u => exact absurd nD (I.there D (by rw [z]; simp))
                      rw [upd_ne (ne_of_none q hB)]; exact I7'.keep a o q n
                    · by_cases ha : a = D
                      · subst ha; rw [upd_same]; simp
                      · rw [upd_ne ha]; exact I7'.there a q
                    · exact I7'.dr.mono (Same.refl _) fun hl => upd_ne (Ne.symm (hDA hl))
                    · obtain ⟨a, o, h1, h2, h4, h5, h6, h7⟩ := I7'.ow j b q
                      obtain ⟨a', o', k1, _, _, _, k5, _⟩ := I.ow j b q
                      have ea : a' = a := by
                        rw [h1] at k1
                        injection k1 with k1
                        injection k1 with k1
                        injection k1 with k1
                        exact k1.symm
                      subst ea
                      have hne : a' ≠ D := fun z => by rw [z, nD] at k5; cases k5
                      exact ⟨a', o, h1, h2, h4, h5, by rw [upd_ne hne]; exact h6, h7⟩
                    · obtain ⟨a0, o, k1, _, _, _, k5, _⟩ := I.ow j _ q
                      have ea := addr_of k k1
                      subst ea
                      have hne : a' ≠ D := fun z => by rw [z, nD] at k5; cases k5
                      exact upd_ne hne
                    · have g7 := (I7'.mx j rows a' cs q k k3).1.row (I7'.rowsAt q k k3) hx
                      have hne : x ≠ D := fun z => by
                        subst z
                        obtain ⟨a0, o0, l1, _, l3, _, l5, _⟩ := I.ow j _ q
                        have ea := addr_of k l1
                        subst ea
                        have hne : a' ≠ x := fun z => by rw [z, nD] at l5; cases l5
                        have l7 := e3.keep a' o0 (by rw [upd_ne hne]; exact e1.keep a' o0 l5 l3) l3
                        rw [upd_ne hne] at l7
                        have l6 := e77.keep a' o0 l7 l3
                        rw [k3] at l6
                        rw [← l6] at l5
                        exact ((I.mx j rows a' cs q k l5).1.row (I.rowsAt q k l5) hx).2.2.2 nD
                      exact ⟨upd_ne hne, g7.1⟩
                  · cases eR : compD tg cond elt (ds.drop (i + 1)) (wipeD ρ own) g6 with
                    | bad => rw [eR] at h3; exact h3
                    | ex n g7 => exact absurd eR compD_noex
                    | ok ys g7 =>
                      rw [eR] at h3
                      simp only [R.bind_ok] at h3 ⊢
                      rw [List.append_assoc]
                      exact h3
        · have hdrop : ds.drop i = [] := List.drop_eq_nil_of_le (by omega)
          rw [hdrop] at h3
          simp only [compD, R.bind_ok, List.append_nil] at h3
          refine .inl ⟨it.stop i H' (by omega) (e3'.trans I3.sub), ?_⟩
          refine h3 D (.lst vs) H' S' I3 ?_ sD nD hv (.lst rv)
          refine e1.trans ⟨fun a o q n => ?_, e3.base, fun a q => ?_, fun a q => ?_⟩
          · have ha : a ≠ D := ne_of_none q hD
            have z := e3.keep a o (by rw [upd_ne ha]; exact q) n
            rw [upd_ne ha] at z
            exact z
          · rcases e3.new a q with z | z
            · exact .inl z
            · by_cases ha : a = D
              · subst ha; exact .inr hD
              · rw [upd_ne ha] at z; exact .inr z
          · by_cases ha : a = D
            · subst ha; rw [hv]; simp
            · have z := e3.there a (by rw [upd_ne ha]; exact q)
              rw [upd_ne ha] at z
              exact z
    · rw [if_neg hz] at h
      exact False.elim h
theorem po_lc {elt tg iter : Expr} {ifs : List Expr} {scope : Scope} {own : List (Str × Nat)} {ts : List Nat} {fi : Ar} {ft : Tg} {fc : Te} {fe : Ex} (hc : X.calm = true) (hN : X.N.Nodup) (hi : PI X tg iter (tI cls W fi)) (ok : BlkOk X.N X.env.scope scope own)
    (hg : ∀ (s : Shared) (H : Hp) (C : Addr) (cl : List (Str × Addr)) (fp : List Addr), PG (X.blk s H scope (compEnvC scope cl C X.env) fp) tg (tG ts ft)) (ht : ∀ (s : Shared) (H : Hp) (C : Addr) (cl : List (Str × Addr)) (fp : List Addr), PTs (X.blk s H scope (compEnvC scope cl C X.env) fp) ifs (tT cls W0 fc))
    (he : ∀ (s : Shared) (H : Hp) (C : Addr) (cl : List (Str × Addr)) (fp : List Addr), PE (X.blk s H scope (compEnvC scope cl C X.env) fp) elt (tE cls W0 fe)) (hts : ∀ i ∈ ts, i ∈ own.map (·.2) := by decide) (hs : ∀ x, foldedSetIterable iter X.env x = pure x := by intro _; rfl) :
    PE X (.ListComp elt [⟨tg, iter, ifs, 0⟩] scope pos) (tO cls W (lcO fi (own.map (·.2)) ft fc fe)) := PE_imp (pe_lc hc hN hi ok hg ht he hs) (lc_of hts)
end
end DL

set_option Elab.async false
set_option linter.all false
set_option maxRecDepth 100000
set_option maxHeartbeats 400000
namespace DL
open PySem PySem.Spec PyProof.Rows L2

/-! ### statements -/
inductive SR where
  | nx (ρ : Nv) (g : G) | rt (d : PyData) (g : G) | bk (ρ : Nv) (g : G) | ct (ρ : Nv) (g : G) | ex (n : Nat) (ρ : Nv) (g : G) | bad
abbrev Sm := Nv → G → SR
section
variable (cls : Nat → Value) (W : WX)
def SO (B : Bs) (S : Hp) (D : Ends) : SR → Prop
  | .nx ρ g => ∀ σ' H' S', Good B σ' H' S' ρ g → Same S S' → D.nx σ' H'
  | .rt d g => ∀ v H' S', Fin B H' S' g → Rp S' v d → D.rt v H'
  | .bk ρ g => ∀ σ' H' S', Good B σ' H' S' ρ g → Same S S' → D.bk σ' H'
  | .ct ρ g => ∀ σ' H' S', Good B σ' H' S' ρ g → Same S S' → D.ct σ' H'
  | .ex n ρ g => ∀ σ' H' S', Good B σ' H' S' ρ g → Same S S' → W (cls n) none σ' H'
  | .bad => False
def tS (s : Sm) : TS := fun D σ H => ∃ B S ρ g, Good B σ H S ρ g ∧ SO cls W B S D (s ρ g)
end
section
variable {X : Cx} {cls : Nat → Value} {W : WX} {pos : Pos} {a b c : Expr} {fa fb fc : Ex} {D : Ends} {σ : L2.St} {H : Hp} {st : Stmt} {rest : List Stmt}
theorem SO_gr {B : Bs} {S S1 : Hp} {r : SR} (e : Same S S1) (h : SO cls W B S D r) : SO cls W B S1 D r := by
  cases r with
  | nx ρ g => exact fun σ' H' S' I u => h σ' H' S' I (e.trans u)
  | rt d g => exact h
  | bk ρ g => exact fun σ' H' S' I u => h σ' H' S' I (e.trans u)
  | ct ρ g => exact fun σ' H' S' I u => h σ' H' S' I (e.trans u)
  | ex n ρ g => exact fun σ' H' S' I u => h σ' H' S' I (e.trans u)
  | bad => exact h
@[simp] def stE (f : Ex) (k : PyData → Sm) : Sm := fun ρ g => match f ρ g with
  | .ok d g1 => k d ρ g1
  | .ex n g1 => .ex n ρ g1
  | .bad => .bad
theorem st_of {f : Ex} {k : PyData → Sm} {Q : VK} (h : tS cls W (stE f k) D σ H) (hq : ∀ B S ρ g d v H1, Good B σ H1 S ρ g → Rp S v d → SO cls W B S D (k d ρ g) → Q v H1) : tE cls W f σ H Q := by
  obtain ⟨B, S, ρ, g, I, h⟩ := h
  unfold stE at h
  refine ⟨B, S, ρ, g, I, ?_⟩
  cases ea : f ρ g with
  | bad => rw [ea] at h; exact h
  | ex n g1 =>
    rw [ea] at h
    exact fun H' S' I' e => h σ H' S' I' e.base
  | ok x g1 =>
    rw [ea] at h
    exact fun v H1 S1 I1 e1 r1 => hq B S1 ρ g1 x v H1 I1 r1 (SO_gr e1.base h)
def setS (i : Nat) (f : Ex) : Sm := stE f fun d ρ g => .nx (ρ.set i (.sh d)) g
theorem psd_set (i : Nat) {x : Str} {pos' : Pos} (hN : X.N.Nodup) (ha : PE X a (tE cls W fa)) (hi : X.N[i]? = some x := by rfl) (hx : Loc X.env.scope x := by first | exact Or.inl rfl | exact Or.inr rfl) (hs : swapsWith a (some (.Name x pos')) pos.line X.env = pure false := by rfl)
    (hf : X.fn x = true ∨ X.env.scope.names.lookup x = some .local := by first | exact .inl rfl | exact .inr rfl | assumption) : PS X (.Assign [.Name x pos'] a pos) (tS cls W (setS i fa)) :=
  PS_imp (ps_set hN hi hx ha hs hf) fun D σ H h => st_of h fun B S ρ g d v H1 I r q => q _ _ _ (I.setSh i r) (Same.refl _)
def asgS (f : Ex) (t : Tg) : Sm := stE f fun d ρ g => match t d ρ with
  | some ρ1 => .nx ρ1 g
  | none => .bad
theorem psd_asg {tg : Expr} {ts : List Nat} {t : Tg} (ha : PE X a (tE cls W fa)) (hg : PG X tg (tG ts t)) (hs : swapsWithSole [tg] a pos.line X.env = pure false := by rfl) (hw : swappedStores [tg] a X.env = pure none := by rfl)
    (h1 : (assignEach [tg] X.env).map (·.2) = [assign tg X.env] := by rfl) : PS X (.Assign [tg] a pos) (tS cls W (asgS fa t)) :=
  PS_imp (ps_asg ha hg hs hw h1) fun D σ H h => st_of h fun B S ρ g d v H1 I r q => by
    cases et : t d ρ with
    | none => simp only [et] at q; exact False.elim q
    | some ρ1 =>
      simp only [et] at q
      exact ⟨B, S, ρ, g, d, ρ1, I, r, et, fun σ' I' _ => q _ _ _ I' (Same.refl _)⟩
def dropS (f : Ex) : Sm := stE f fun _ ρ g => .nx ρ g
theorem psd_expr (ha : PE X a (tE cls W fa)) (hs : swapsWith a none pos.line X.env = pure false := by rfl) : PS X (.Expr a pos) (tS cls W (dropS fa)) :=
  PS_imp (ps_expr ha hs) fun D σ H h => st_of h fun B S ρ g d v H1 I r q => q _ _ _ I (Same.refl _)
def retS (f : Ex) : Sm := stE f fun d _ g => .rt d g
theorem psd_ret (ha : PE X a (tE cls W fa)) : PS X (.Return (some a) pos) (tS cls W (retS fa)) :=
  PS_imp (ps_ret ha) fun D σ H h => st_of h fun B S ρ g d v H1 I r q => q _ _ _ I.toFin r
@[simp] def nextS : Sm := fun ρ g => .nx ρ g
theorem psd_pass : PS X (.Pass pos) (tS cls W nextS) := PS_imp ps_pass fun D σ H ⟨B, S, ρ, g, I, h⟩ => h _ _ _ I (Same.refl _)
theorem psd_break : PS X (.Break pos) (tS cls W fun ρ g => .bk ρ g) := PS_imp ps_break fun D σ H ⟨B, S, ρ, g, I, h⟩ => h _ _ _ I (Same.refl _)
theorem psd_continue : PS X (.Continue pos) (tS cls W fun ρ g => .ct ρ g) := PS_imp ps_continue fun D σ H ⟨B, S, ρ, g, I, h⟩ => h _ _ _ I (Same.refl _)
@[simp] def seqS (s t : Sm) : Sm := fun ρ g => match s ρ g with
  | .nx ρ1 g1 => t ρ1 g1
  | r => r
theorem pssd_nil : PSs X [] (tS cls W nextS) := PSs_imp pss_nil fun D σ H ⟨B, S, ρ, g, I, h⟩ => h _ _ _ I (Same.refl _)
theorem pssd_cons {s t : Sm} (h1 : PS X st (tS cls W s)) (h2 : PSs X rest (tS cls W t)) : PSs X (st :: rest) (tS cls W (seqS s t)) := PSs_imp (pss_cons h1 h2) fun D σ H ⟨B, S, ρ, g, I, h⟩ => by
  unfold seqS at h
  refine ⟨B, S, ρ, g, I, ?_⟩
  cases es : s ρ g with
  | nx ρ1 g1 =>
    rw [es] at h
    exact fun σ' H' S' I' e => ⟨B, S', ρ1, g1, I', SO_gr e h⟩
  | rt d g1 => rw [es] at h; exact h
  | bk ρ1 g1 => rw [es] at h; exact h
  | ct ρ1 g1 => rw [es] at h; exact h
  | ex n ρ1 g1 => rw [es] at h; exact h
  | bad => rw [es] at h; exact h
theorem pssd_one {s : Sm} (h1 : PS X st (tS cls W s)) : PSs X [st] (tS cls W s) := pss_one h1
@[simp] def ifS (c : Te) (s t : Sm) : Sm := fun ρ g => match c ρ g with
  | .ok true g1 => s ρ g1
  | .ok false g1 => t ρ g1
  | .ex n g1 => .ex n ρ g1
  | .bad => .bad
theorem psd_if {ss ts : List Stmt} {tc : Te} {s t : Sm} (hc : PT X c (tT cls W tc)) (hs : PSs X ss (tS cls W s)) (ht : PSs X ts (tS cls W t)) : PS X (.If c ss ts pos) (tS cls W (ifS tc s t)) := PS_imp (ps_if hc hs ht) fun D σ H ⟨B, S, ρ, g, I, h⟩ => by
  unfold ifS at h
  refine ⟨B, S, ρ, g, I, ?_⟩
  cases es : tc ρ g with
  | bad => rw [es] at h; exact h
  | ex n g1 => rw [es] at h; exact fun H' S' I' e => h _ _ _ I' e.base
  | ok k g1 =>
    rw [es] at h
    intro H1 S1 I1 e1
    cases k with
    | true => exact ⟨B, S1, ρ, g1, I1, SO_gr e1.base h⟩
    | false => exact ⟨B, S1, ρ, g1, I1, SO_gr e1.base h⟩
/-- two names at once, from the right -/
@[simp] def parS (i j : Nat) (f k : Ex) : Sm := fun ρ g => match (f ρ g).bind fun x g1 => (k ρ g1).bind fun y g2 => R.ok (x, y) g2 with
  | .ok (x, y) g1 => .nx ((ρ.set i (.sh x)).set j (.sh y)) g1
  | .ex n g1 => .ex n ρ g1
  | .bad => .bad
theorem psd_par (i j : Nat) {x y : Str} {px py pt : Pos} {kt k2 pt2} (hc : X.calm = true) (hN : X.N.Nodup) (ha : PE X a (tE cls W fa)) (hb : PE X b (tE cls W fb)) (hi : X.N[i]? = some x := by rfl) (hj : X.N[j]? = some y := by rfl) (hij : i ≠ j := by decide)
    (hx : X.env.scope.names.lookup x = some .local := by rfl) (hy : X.env.scope.names.lookup y = some .local := by rfl)
    (hw : swappedStores [.Tuple [.Name x px, .Name y py] kt pt] (.Tuple [a, b] k2 pt2) X.env = pure (some [x, y]) := by rfl)
    (hs : swapsWithSole [.Tuple [.Name x px, .Name y py] kt pt] (.Tuple [a, b] k2 pt2) pos.line X.env = pure false := by rfl) (hsa : starEach [a, b] X.env = (false, eval a X.env) :: starEach [b] X.env := by rfl) (hsb : starEach [b] X.env = (false, eval b X.env) :: starEach [] X.env := by rfl) :
    PS X (.Assign [.Tuple [.Name x px, .Name y py] kt pt] (.Tuple [a, b] k2 pt2) pos) (tS cls W (parS i j fa fb)) :=
  PS_imp (ps_par hc hN hi hj hij hx hy (pa_cons ha (pa_cons hb pa_nil hsb) hsa) hw hs) fun D σ H ⟨B, S, ρ, g, I, h⟩ => by
    unfold parS at h
    refine ⟨B, S, ρ, g, I, ?_⟩
    cases ea : fa ρ g with
    | bad => rw [ea] at h; exact h
    | ex n g1 => rw [ea] at h; exact fun H' S' I' e => h _ _ _ I' e.base
    | ok u g1 =>
      rw [ea] at h
      intro v H1 S1 I1 e1 r1
      refine ⟨B, S1, ρ, g1, I1, ?_⟩
      simp only [R.bind_ok] at h
      cases eb : fb ρ g1 with
      | bad => rw [eb] at h; exact h
      | ex n g2 => rw [eb] at h; exact fun H' S' I' e => h _ _ _ I' (e1.base.trans e.base)
      | ok z g2 =>
        rw [eb] at h
        simp only [R.bind_ok] at h
        intro w H2 S2 I2 e2 r2
        exact ⟨v, w, rfl, h _ _ _ ((I2.setSh i (r1.mono e2.base)).setSh j r2) (e1.base.trans e2.base)⟩
end

/-! ### things of one's own -/
section
variable {B : Bs} {σ : L2.St} {H S : Hp} {ρ : Nv} {g : G}
/-- a thing of one's own is changed -/
theorem Good.mutO (I : Good B σ H S ρ g) {i : Nat} {b b' : Ob} {a : Addr} {o' : HO} (hi : ρ[i]? = some (.ow b)) (ha : σ[i]? = some (some (.ref a))) (r : ObAt S b' o') (nm : ∀ rows, b' ≠ .mat rows) : Good B σ (upd H a o') S (ρ.set i (.ow b')) g := by
  obtain ⟨a', o, h1, h2, h3, h4, h5, h6⟩ := I.ow i b hi
  have e := addr_of ha h1
  subst e
  have hl : i < ρ.length := (List.getElem?_eq_some_iff.mp hi).1
  have key : ∀ (j : Nat) (z : Sl), (ρ.set i (.ow b'))[j]? = some z → (j = i ∧ z = .ow b') ∨ (j ≠ i ∧ ρ[j]? = some z) := fun j z h => by
    by_cases hj : j = i
    · subst hj
      rw [List.getElem?_set_self hl] at h
      exact .inl ⟨rfl, (Option.some.inj h).symm⟩
    · rw [List.getElem?_set_ne (Ne.symm hj)] at h
      exact .inr ⟨hj, h⟩
  have isow : ∀ (j : Nat) (c : Ob), (ρ.set i (.ow b'))[j]? = some (.ow c) → ∃ c', ρ[j]? = some (.ow c') := fun j c h => by
    rcases key j _ h with ⟨rfl, _⟩ | ⟨_, h⟩
    · exact ⟨b, hi⟩
    · exact ⟨c, h⟩
  refine ⟨⟨fun c o q => ?_, fun c o q n => ?_, I.base, I.new, fun c q => ?_, I.no, I.dr.mono (Same.refl _) fun hl => upd_ne (Ne.symm (h3 hl))⟩, by rw [List.length_set]; exact I.len, fun j d h => ?_, fun j h => ?_, fun j h => ?_, fun j c h => ?_, fun j l c d x k1 k2 k3 k4 => ?_, I.mxMove (Same.refl _) (fun j c h => ⟨isow j c h, rfl⟩) (fun j rows h => ?_) (fun j rows x h h' => ?_) fun j rows x cs _ h h' h2' c hc => ?_⟩
  · rw [upd_ne (ne_of_none q h2)]; exact I.sub _ _ q
  · rw [upd_ne (ne_of_none q h4)]; exact I.keep c o q n
  · by_cases hc : c = a
    · subst hc; rw [upd_same]; simp
    · rw [upd_ne hc]; exact I.there c q
  · rcases key j _ h with ⟨rfl, e⟩ | ⟨_, h⟩
    · cases e
    · exact I.sh j d h
  · rcases key j _ h with ⟨rfl, e⟩ | ⟨_, h⟩
    · cases e
    · exact I.dw j h
  · rcases key j _ h with ⟨rfl, e⟩ | ⟨_, h⟩
    · cases e
    · exact I.sw j h
  · rcases key j _ h with ⟨rfl, e⟩ | ⟨hj, h⟩
    · cases e
      exact ⟨a, o', ha, h2, h3, h4, upd_same, r⟩
    · obtain ⟨x, u, q1, q2, q3, q4, q5, q6⟩ := I.ow j c h
      have hx : x ≠ a := fun z => hj (I.ap j i c b a h hi (by rw [q1, z]) ha)
      exact ⟨x, u, q1, q2, q3, q4, by rw [upd_ne hx]; exact q5, q6⟩
  · obtain ⟨c', k1⟩ := isow j c k1
    obtain ⟨d', k2⟩ := isow l d k2
    exact I.ap j l c' d' x k1 k2 k3 k4
  · rcases key j _ h with ⟨rfl, e⟩ | ⟨_, h⟩
    · injection e with e
      exact absurd e.symm (nm rows)
    · exact h
  · rcases key j _ h with ⟨rfl, e⟩ | ⟨hj, h⟩
    · injection e with e
      exact absurd e.symm (nm rows)
    · exact upd_ne fun z => hj (I.ap j i _ b a h hi (by rw [h', z]) ha)
  · obtain ⟨R, A1, _⟩ := I.mx j rows x cs h h' h2'
    exact ⟨upd_ne fun z => A1 i b a hi ha (by rw [← z]; exact hc), (R.row (I.rowsAt h h' h2') hc).1⟩
/-- a thing of one's own becomes a datum -/
theorem Good.shut (I : Good B σ H S ρ g) {i : Nat} {ds : List PyData} (hi : ρ[i]? = some (.ow (.lst ds))) : ∃ S', Same S S' ∧ Good B σ H S' (ρ.set i (.sh (.list ds))) g := by
  obtain ⟨a, o, h1, h2, h3, h4, h5, h6⟩ := I.ow i _ hi
  have hl : i < ρ.length := (List.getElem?_eq_some_iff.mp hi).1
  cases h6 with
  | @lst _ vs r =>
    have sm : Same S (upd S a (.lst vs)) := fun c u q => by rw [upd_ne (ne_of_none q h2)]; exact q
    have key : ∀ (j : Nat) (z : Sl), (ρ.set i (.sh (.list ds)))[j]? = some z → (j = i ∧ z = .sh (.list ds)) ∨ (j ≠ i ∧ ρ[j]? = some z) := fun j z h => by
      by_cases hj : j = i
      · subst hj
        rw [List.getElem?_set_self hl] at h
        exact .inl ⟨rfl, (Option.some.inj h).symm⟩
      · rw [List.getElem?_set_ne (Ne.symm hj)] at h
        exact .inr ⟨hj, h⟩
    refine ⟨_, sm, ⟨fun c u q => ?_, I.keep, I.base.trans sm, fun c q => ?_, I.there, fun hl => by rw [upd_ne (Ne.symm (h3 hl))]; exact I.no hl, I.dr.mono sm fun _ => rfl⟩, by rw [List.length_set]; exact I.len, fun j d h => ?_, fun j h => ?_, fun j h => ?_, fun j c h => ?_, fun j l c d x k1 k2 k3 k4 => ?_, I.mxMove sm (fun j c h => ?_) (fun j rows h => ?_) (fun _ _ _ _ _ => rfl) fun j rows x cs _ h h' h2' c hc => ⟨rfl, ?_⟩⟩
    · by_cases hc : c = a
      · subst hc; rw [upd_same] at q; rw [← q]; exact h5
      · rw [upd_ne hc] at q; exact I.sub _ _ q
    · by_cases hc : c = a
      · subst hc; exact .inr h4
      · rw [upd_ne hc] at q; exact I.new c q
    · rcases key j _ h with ⟨rfl, e⟩ | ⟨_, h⟩
      · cases e
        exact ⟨.ref a, h1, .lst upd_same (r.mono sm)⟩
      · obtain ⟨v, q1, q2⟩ := I.sh j d h
        exact ⟨v, q1, q2.mono sm⟩
    · rcases key j _ h with ⟨rfl, e⟩ | ⟨_, h⟩
      · cases e
      · exact I.dw j h
    · rcases key j _ h with ⟨rfl, e⟩ | ⟨_, h⟩
      · cases e
      · exact I.sw j h
    · rcases key j _ h with ⟨rfl, e⟩ | ⟨hj, h⟩
      · cases e
      · obtain ⟨x, u, q1, q2, q3, q4, q5, q6⟩ := I.ow j c h
        have hx : x ≠ a := fun z => hj (I.ap j i c _ a h hi (by rw [q1, z]) h1)
        exact ⟨x, u, q1, by rw [upd_ne hx]; exact q2, q3, q4, q5, q6.mono sm⟩
    · rcases key j _ k1 with ⟨rfl, e⟩ | ⟨_, k1⟩
      · cases e
      · rcases key l _ k2 with ⟨rfl, e⟩ | ⟨_, k2⟩
        · cases e
        · exact I.ap j l c d x k1 k2 k3 k4
    · rcases key j _ h with ⟨rfl, e⟩ | ⟨_, h⟩
      · cases e
      · exact ⟨⟨c, h⟩, rfl⟩
    · rcases key j _ h with ⟨rfl, e⟩ | ⟨_, h⟩
      · cases e
      · exact h
    · obtain ⟨R, A1, _⟩ := I.mx j rows x cs h h' h2'
      rw [upd_ne fun z => A1 i _ a hi h1 (by rw [← z]; exact hc)]
      exact (R.row (I.rowsAt h h' h2') hc).1
/-- a name takes a thing that nobody else holds -/
theorem Good.setOw {H0 S0 : Hp} {g0 : G} (I0 : Good B σ H0 S0 ρ g0) (I : Good B σ H S ρ g) (gr : Gr B H0 S0 H S) {i : Nat} {b : Ob} {a : Addr} {o : HO} (n1 : S a = none) (n2 : H0 a = none) (ho : H a = some o) (r : ObAt S b o) (nm : ∀ rows, b ≠ .mat rows) : Good B (σ.set i (some (.ref a))) H S (ρ.set i (.ow b)) g := by
  have key : ∀ (j : Nat) (z : Sl), (ρ.set i (.ow b))[j]? = some z → (j = i ∧ z = .ow b ∧ i < ρ.length) ∨ (j ≠ i ∧ ρ[j]? = some z) := fun j z h => by
    by_cases hj : j = i
    · subst hj
      by_cases hl : j < ρ.length
      · rw [List.getElem?_set_self hl] at h
        exact .inl ⟨rfl, (Option.some.inj h).symm, hl⟩
      · rw [List.getElem?_eq_none (by rw [List.length_set]; exact Nat.le_of_not_lt hl)] at h
        cases h
    · rw [List.getElem?_set_ne (Ne.symm hj)] at h
      exact .inr ⟨hj, h⟩
  have at_ne : ∀ j, j ≠ i → (σ.set i (some (V.ref a)))[j]? = σ[j]? := fun j hj => List.getElem?_set_ne (Ne.symm hj)
  have other : ∀ (j : Nat) (c : Ob), ρ[j]? = some (.ow c) → σ[j]? ≠ some (some (.ref a)) := fun j c h z => by
    obtain ⟨x, u, q1, _, _, _, q5, _⟩ := I0.ow j c h
    have e := addr_of z q1
    subst e
    rw [n2] at q5
    cases q5
  refine ⟨I.toFin, by rw [List.length_set, List.length_set]; exact I.len, fun j d' h => ?_, fun j h => ?_, fun j h => ?_, fun j c h => ?_, fun j l c d x h1 h2 h3 h4 => ?_, fun j rows x cs h h' h2' => ?_⟩
  · rcases key j _ h with ⟨rfl, e, hl⟩ | ⟨hj, h⟩
    · cases e
    · rw [at_ne j hj]; exact I.sh j d' h
  · rcases key j _ h with ⟨rfl, e, hl⟩ | ⟨hj, h⟩
    · cases e
    · rw [at_ne j hj]; exact I.dw j h
  · rcases key j _ h with ⟨rfl, e, hl⟩ | ⟨hj, h⟩
    · cases e
    · rw [at_ne j hj]; exact I.sw j h
  · rcases key j _ h with ⟨rfl, e, hl⟩ | ⟨hj, h⟩
    · cases e
      refine ⟨a, o, List.getElem?_set_self (by rw [I.len]; exact hl), n1, fun hl z => I0.neA n2 hl z.symm, ?_, ho, r⟩
      cases q : B.H a with
      | none => rfl
      | some u => exact absurd n2 (I0.there a (by rw [q]; simp))
    · rw [at_ne j hj]; exact I.ow j c h
  · rcases key j _ h1 with ⟨ej, e, hl⟩ | ⟨hj, k1⟩
    · rcases key l _ h2 with ⟨el, e2, hl2⟩ | ⟨hl2, k2⟩
      · rw [ej, el]
      · rw [ej, List.getElem?_set_self (by rw [I.len]; exact hl)] at h3
        rw [at_ne l hl2] at h4
        injection h3 with h3
        injection h3 with h3
        injection h3 with h3
        subst h3
        exact absurd h4 (other l d k2)
    · rcases key l _ h2 with ⟨el, e2, hl2⟩ | ⟨hl2, k2⟩
      · rw [el, List.getElem?_set_self (by rw [I.len]; exact hl2)] at h4
        rw [at_ne j hj] at h3
        injection h4 with h4
        injection h4 with h4
        injection h4 with h4
        subst h4
        exact absurd h3 (other j c k1)
      · rw [at_ne j hj] at h3
        rw [at_ne l hl2] at h4
        exact I.ap j l c d x k1 k2 h3 h4
  · rcases key j _ h with ⟨_, e, _⟩ | ⟨hj, h⟩
    · injection e with e
      exact absurd e.symm (nm rows)
    · rw [at_ne j hj] at h'
      obtain ⟨R, A1, A2⟩ := I.mx j rows x cs h h' h2'
      refine ⟨R, fun l c y k1 k2 hy => ?_, fun l rows' y cs' hl k1 k2 k3 => ?_⟩
      · rcases key l _ k1 with ⟨el, _, hl⟩ | ⟨hl, k1⟩
        · rw [el, List.getElem?_set_self (by rw [I.len]; exact hl)] at k2
          injection k2 with k2
          injection k2 with k2
          injection k2 with k2
          subst k2
          obtain ⟨x0, o0, l1, _, l3, _, l5, _⟩ := I0.ow j _ h
          have q := addr_of h' l1
          subst q
          have l6 := gr.keep x o0 l5 l3
          rw [h2'] at l6
          rw [← l6] at l5
          exact ((I0.mx j rows x cs h h' l5).1.row (I0.rowsAt h h' l5) hy).2.2.2 n2
        · rw [at_ne l hl] at k2
          exact A1 l c y k1 k2 hy
      · rcases key l _ k1 with ⟨_, e, _⟩ | ⟨hl', k1⟩
        · injection e with e
          exact absurd e.symm (nm rows')
        · rw [at_ne l hl'] at k2
          exact A2 l rows' y cs' hl k1 k2 k3
end
section
variable {X : Cx} {cls : Nat → Value} {W : WX} {pos : Pos} {a b c : Expr} {fa fb fc : Ex} {D : Ends} {σ : L2.St} {H : Hp} {st : Stmt} {rest : List Stmt}
@[simp] def notMat : Ob → Bool
  | .mat _ => false
  | _ => true
@[simp] def setOS (i : Nat) (f : Ow) : Sm := fun ρ g => match f ρ g with
  | .ok b g1 => if notMat b = true then .nx (ρ.set i (.ow b)) g1 else .bad
  | .ex n g1 => .ex n ρ g1
  | .bad => .bad
theorem setOS_of {i : Nat} {f : Ow} (h : tS cls W (setOS i f) D σ H) : tO cls W f σ H fun x H1 => D.nx (σ.set i (some x)) H1 := by
  obtain ⟨B, S, ρ, g, I, h⟩ := h
  unfold setOS at h
  refine ⟨B, S, ρ, g, I, ?_⟩
  cases ea : f ρ g with
  | bad => rw [ea] at h; exact h
  | ex n g1 => rw [ea] at h; exact fun H' S' I' e => h σ H' S' I' e.base
  | ok b g1 =>
    rw [ea] at h
    simp only at h
    by_cases hn : notMat b = true
    · rw [if_pos hn] at h
      exact fun a o H1 S1 I1 e1 n1 n2 ho r => h _ _ _ (I.setOw I1 e1 n1 n2 ho r fun rows z => by rw [z] at hn; cases hn) e1.base
    · rw [if_neg hn] at h
      exact False.elim h
theorem psd_setO (i : Nat) {x : Str} {pos' : Pos} {fo : Ow} (hN : X.N.Nodup) (ha : PE X a (tO cls W fo)) (hi : X.N[i]? = some x := by rfl) (hx : Loc X.env.scope x := by first | exact Or.inl rfl | exact Or.inr rfl) (hs : swapsWith a (some (.Name x pos')) pos.line X.env = pure false := by rfl)
    (hf : X.fn x = true ∨ X.env.scope.names.lookup x = some .local := by first | exact .inl rfl | exact .inr rfl | assumption) : PS X (.Assign [.Name x pos'] a pos) (tS cls W (setOS i fo)) :=
  PS_imp (ps_set hN hi hx ha hs hf) fun D σ H h => setOS_of h
/-- x = [.. for ..], x a local -/
theorem psd_setLcO (i : Nat) {y : Str} {py : Pos} {elt tg iter : Expr} {ifs : List Expr} {scope : Scope} {own : List (Str × Nat)} {lpos : Pos} {ts : List Nat} {fi : Ar} {ft : Tg} {fc : Te} {fe : Ex} (hc : X.calm = true) (hN : X.N.Nodup)
    (hsw : swapsWith (.ListComp elt [⟨tg, iter, ifs, 0⟩] scope lpos) (some (.Name y py)) pos.line X.env = pure true) (hi : PI X tg iter (tI cls W fi)) (ok : BlkOk X.N X.env.scope scope own)
    (hg : ∀ (s : Shared) (H : Hp) (C : Addr) (cl : List (Str × Addr)) (fp : List Addr), PG (X.blk s H scope (compEnvC scope cl C X.env) fp) tg (tG ts ft)) (ht : ∀ (s : Shared) (H : Hp) (C : Addr) (cl : List (Str × Addr)) (fp : List Addr), PTs (X.blk s H scope (compEnvC scope cl C X.env) fp) ifs (tT cls W0 fc))
    (he : ∀ (s : Shared) (H : Hp) (C : Addr) (cl : List (Str × Addr)) (fp : List Addr), PE (X.blk s H scope (compEnvC scope cl C X.env) fp) elt (tE cls W0 fe)) (hts : ∀ i ∈ ts, i ∈ own.map (·.2) := by decide) (hy : X.N[i]? = some y := by rfl) (hyl : X.env.scope.names.lookup y = some .local := by rfl)
    (hs : ∀ x, foldedSetIterable iter X.env x = pure x := by intro _; rfl) :
    PS X (.Assign [.Name y py] (.ListComp elt [⟨tg, iter, ifs, 0⟩] scope lpos) pos) (tS cls W (setOS i (lcO fi (own.map (·.2)) ft fc fe))) :=
  PS_imp (ps_setLc hc hN hy hyl hsw hi ok hg ht he hs) fun D σ H h => lc_of hts σ H _ (setOS_of h)
/-- a thing of one's own is read as a datum from here on -/
@[simp] def shutS (i : Nat) (s : Sm) : Sm := fun ρ g => match ρ[i]? with
  | some (.ow (.lst ds)) => s (ρ.set i (.sh (.list ds))) g
  | _ => .bad
theorem pssd_shut (i : Nat) {s : Sm} (h : PSs X rest (tS cls W s)) : PSs X rest (tS cls W (shutS i s)) := PSs_imp h fun D σ H ⟨B, S, ρ, g, I, h⟩ => by
  unfold shutS at h
  cases e : ρ[i]? with
  | none => rw [e] at h; exact False.elim h
  | some z =>
    rw [e] at h
    cases z with
    | ow b =>
      cases b with
      | lst ds =>
        obtain ⟨S', sm, I'⟩ := I.shut e
        exact ⟨B, S', _, g, I', SO_gr sm h⟩
      | _ => exact False.elim h
    | _ => exact False.elim h
/-- x = [.. for ..], read as a datum at once -/
theorem pssd_setLc (i : Nat) {s : Sm} {f : Ow} (h1 : PS X st (tS cls W (setOS i f))) (h2 : PSs X rest (tS cls W s)) : PSs X (st :: rest) (tS cls W (seqS (setOS i f) (shutS i s))) := pssd_cons h1 (pssd_shut i h2)
@[simp] def appS (i : Nat) (f : Ex) : Sm := fun ρ g => match f ρ g with
  | .ok d g1 => match ρ[i]? with
    | some (.ow (.lst ds)) => if ds.length < big then .nx (ρ.set i (.ow (.lst (ds ++ [d])))) g1 else .bad
    | _ => .bad
  | .ex n g1 => (match ρ[i]? with
    | some (.ow (.lst _)) => .ex n ρ g1
    | _ => .bad)
  | .bad => .bad
theorem psd_app (i : Nat) {x : Str} {p apos cpos : Pos} (ha : PE X a (tE cls W fa)) (hN : X.N[i]? = some x := by rfl) (hv : Vis X.env.scope x := by first | exact Or.inl rfl | exact Or.inr (Or.inl rfl) | exact Or.inr (Or.inr rfl)) (hd : (x == ("__debug__" : Str)) = false := by decide) (hcd : (x == ("__classdict__" : Str)) = false := by decide)
    (hb : attributeBase (.Name x p) "append" X.env (eval (.Name x p) X.env) = eval (.Name x p) X.env := by rfl)
    (hz : (((((backTo cpos (starEach (a :: []) X.env)).all fun x => !x.1) && (backToKw cpos (keywordEach [] X.env)).all fun x => x.1.isSome) && decide (((a :: ([] : List Expr)).length + ([] : List Keyword).length + if ([] : List Keyword).isEmpty = true then 0 else 1) < 30)) = true) := by rfl)
    (hl : (apos.endLine == cpos.line) = true := by rfl) (hs : starEach [a] X.env = (false, eval a X.env) :: starEach [] X.env := by rfl) (hpl : ((backTo cpos (starEach [] X.env)).any fun x => x.1) = false := by rfl)
    (hsw : swapsWith (.Call (.Attribute (.Name x p) "append" apos) [a] [] cpos) none pos.line X.env = pure false := by rfl) :
    PS X (.Expr (.Call (.Attribute (.Name x p) "append" apos) [a] [] cpos) pos) (tS cls W (appS i fa)) :=
  PS_imp (ps_expr (pe_bm PySem.F.plainAttrs_list PySem.F.slot_list_append PySem.F.type_list_append mt_append (pe_var hN hv hd hcd) (pa_cons ha pa_nil hs) hb hz hl hs hpl) hsw) fun D σ H ⟨B, S, ρ, g, I, h⟩ => by
    unfold appS at h
    cases e : ρ[i]? with
    | none =>
      rw [e] at h
      cases ea : fa ρ g with
      | _ => rw [ea] at h; exact False.elim h
    | some z =>
      cases z with
      | ow b =>
        cases b with
        | lst ds =>
          obtain ⟨l, o, h1, h2, h3, h4, h5, h6⟩ := I.ow i _ e
          cases h6 with
          | @lst _ vs r =>
            refine ⟨.ref l, h1, .inl ⟨rfl, vs, .of h5⟩, B, S, ρ, g, I, ?_⟩
            cases ea : fa ρ g with
            | bad => rw [ea] at h; exact h
            | ex n g1 => rw [ea, e] at h; exact fun H' S' I' e => h _ _ _ I' e.base
            | ok d g1 =>
              rw [ea, e] at h
              simp only at h
              intro v H1 S1 I1 e1 r1
              by_cases hb : ds.length < big
              · rw [if_pos hb] at h
                refine ⟨l, vs, v, rfl, rfl, e1.keep _ _ h5 h3, big_lt (by rw [r.length]; exact hb), ?_⟩
                exact h _ _ _ (I1.mutO e h1 (.lst ((r.mono e1.base).append (.cons r1 .nil))) fun _ z => nomatch z) e1.base
              · rw [if_neg hb] at h
                exact False.elim h
        | _ =>
          rw [e] at h
          cases ea : fa ρ g with
          | _ => rw [ea] at h; exact False.elim h
      | _ =>
        rw [e] at h
        cases ea : fa ρ g with
        | _ => rw [ea] at h; exact False.elim h

/-! ### loops -/
def forD (t : Tg) (body : Sm) : List PyData → Sm
  | [], ρ, g => .nx ρ g
  | d :: ds, ρ, g => match t d ρ with
    | none => .bad
    | some ρ1 => match body ρ1 g with
      | .nx ρ2 g2 => forD t body ds ρ2 g2
      | .ct ρ2 g2 => forD t body ds ρ2 g2
      | .bk ρ2 g2 => .nx ρ2 g2
      | .rt d g2 => .rt d g2
      | .ex n ρ2 g2 => .ex n ρ2 g2
      | .bad => .bad
@[simp] def forS (fi : Ar) (t : Tg) (body : Sm) : Sm := fun ρ g => match fi ρ g with
  | .ok ds g1 => forD t body ds ρ g1
  | .ex n g1 => .ex n ρ g1
  | .bad => .bad
theorem for_core {B : Bs} {S1 H1 : Hp} {ρ : Nv} {g1 : G} {J : It} {ds : List PyData} {ts : List Nat} {t : Tg} {sb : Sm} (I1 : Good B σ H1 S1 ρ g1) (it : ItOk J S1 ds) (h : SO cls W B S1 D (forD t sb ds ρ g1)) :
    ∃ W' : Nat → Nat → L2.St → Hp → Prop, (∃ m, W' 0 m σ H1) ∧ ∀ (i m : Nat) (σ : L2.St) (H : Hp), W' i m σ H → (J.stop i H ∧ D.nx σ H) ∨ (J.go i H ∧ ∃ N : L2.St → Hp → Prop, (∀ σ' H', N σ' H' → ∃ m', m' < m ∧ W' (i + 1) m' σ' H') ∧
      ∀ x H', J.yld i H x H' → (tG ts t) x σ H' fun σ2 H2 => (tS cls W sb) { D with nx := N, ct := N, bk := D.nx } σ2 H2) := by
  refine ⟨fun i m σ' H' => i + m = ds.length ∧ ∃ S' ρ' g', Good B σ' H' S' ρ' g' ∧ Same S1 S' ∧ SO cls W B S' D (forD t sb (ds.drop i) ρ' g'), ⟨ds.length, by omega, S1, ρ, g1, I1, Same.refl _, h⟩, ?_⟩
  rintro i m σ' H' ⟨him, S', ρ', g', I', sm, h'⟩
  by_cases hi : i < ds.length
  · refine .inr ⟨it.go i H' hi (sm.trans I'.sub), fun σ'' H'' => ∃ m', m' < m ∧ (i + 1 + m' = ds.length ∧ ∃ S' ρ' g', Good B σ'' H'' S' ρ' g' ∧ Same S1 S' ∧ SO cls W B S' D (forD t sb (ds.drop (i + 1)) ρ' g')), fun σ'' H'' z => z, fun x H2 hy => ?_⟩
    obtain ⟨d, S2, hd, gr1, rd⟩ := it.yld i H' S' x H2 hi sm I'.sub hy
    obtain ⟨I2, e2⟩ := gr1.good I'
    have hdrop : ds.drop i = d :: ds.drop (i + 1) := by
      rw [List.drop_eq_getElem_cons hi]
      rw [List.getElem?_eq_getElem hi] at hd
      rw [Option.some.inj hd]
    rw [hdrop] at h'
    unfold forD at h'
    cases et : t d ρ' with
    | none => simp only [et] at h'; exact False.elim h'
    | some ρ1 =>
      simp only [et] at h'
      refine ⟨B, S2, ρ', g', d, ρ1, I2, rd, et, fun σ3 I3 _ => ⟨B, S2, ρ1, g', I3, ?_⟩⟩
      have h2 := SO_gr e2.base h'
      cases eb : sb ρ1 g' with
      | nx ρ2 g2 =>
        rw [eb] at h2
        exact fun σ4 H4 S4 I4 e4 => ⟨m - 1, by omega, by omega, S4, ρ2, g2, I4, (sm.trans e2.base).trans e4, SO_gr e4 h2⟩
      | ct ρ2 g2 =>
        rw [eb] at h2
        exact fun σ4 H4 S4 I4 e4 => ⟨m - 1, by omega, by omega, S4, ρ2, g2, I4, (sm.trans e2.base).trans e4, SO_gr e4 h2⟩
      | bk ρ2 g2 => rw [eb] at h2; exact h2
      | rt d g2 => rw [eb] at h2; exact h2
      | ex n ρ2 g2 => rw [eb] at h2; exact h2
      | bad => rw [eb] at h2; exact h2
  · have hdrop : ds.drop i = [] := List.drop_eq_nil_of_le (by omega)
    rw [hdrop] at h'
    exact .inl ⟨it.stop i H' (by omega) (sm.trans I'.sub), h' _ _ _ I' (Same.refl _)⟩
theorem psd_for {tg iter : Expr} {body : List Stmt} {ts : List Nat} {fi : Ar} {t : Tg} {sb : Sm} (hp : PassesOwn (model X.prog X.w) X.A X.env X.xe) (hc : X.calm = true) (hi : PI X tg iter (tI cls W fi)) (hg : PG X tg (tG ts t)) (hb : PSs X body (tS cls W sb)) (hs : ∀ x, foldedSetIterable iter X.env x = pure x := by intro _; rfl) :
    PS X (.For tg iter body [] pos) (tS cls W (forS fi t sb)) := PS_imp (ps_for hp hc hi hg hb hs) fun D σ H ⟨B, S, ρ, g, I, h⟩ => by
  unfold forS at h
  refine ⟨B, S, ρ, g, I, ?_⟩
  cases ei : fi ρ g with
  | bad => rw [ei] at h; exact h
  | ex n g1 => rw [ei] at h; exact fun H' S' I' e => h _ _ _ I' e.base
  | ok ds g1 =>
    rw [ei] at h
    exact fun J H1 S1 I1 e1 it => for_core I1 it (SO_gr e1.base h)
/-- for .. in script, the script in slot i -/
def tScF (K : PySem.W.Frag) (cls : Nat → Value) (W : WX) (i : Nat) (ns : List Int) (t : Tg) (sb : Sm) : TS := fun D σ H => ∃ B S ρ g, Good B σ H S ρ g ∧ ρ[i]? = some .sc ∧ SqL K B.S B.C (ns.map V.int) ∧ SO cls W B S D (forD t sb (ns.map PyData.int) ρ g)
theorem it_sq {K : PySem.W.Frag} {S : Hp} {a : Addr} {ns : List Int} (h : SqL K S a (ns.map V.int)) : ItOk (Itl K a) S (ns.map PyData.int) := by
  have sq : ∀ H, Same S H → SqL K H a (ns.map V.int) := fun H e => e.seq h
  refine ⟨fun i H hi hs => ?_, fun i H hi hs => ⟨_, sq H hs, by rw [List.length_map] at hi ⊢; exact hi⟩, fun i H S' x H' hi h1 h2 hy => ?_⟩
  · rw [List.length_map] at hi
    exact ⟨_, .int ns[i], sq H hs, by rw [List.getElem?_map, List.getElem?_eq_getElem hi]; rfl⟩
  · obtain ⟨rfl, hy⟩ := hy
    rw [List.length_map] at hi
    have e := hy _ (sq _ (h1.trans h2))
    rw [List.getElem?_map, List.getElem?_eq_getElem hi] at e
    have ex : x = .int ns[i] := (Option.some.inj e).symm
    subst ex
    exact ⟨.int ns[i], S', by rw [List.getElem?_map, List.getElem?_eq_getElem hi]; rfl, .same, .int _⟩
theorem psd_forSc (i : Nat) {x : Str} {tg : Expr} {p : Pos} {body : List Stmt} {ts : List Nat} {ns : List Int} {t : Tg} {sb : Sm} (hp : PassesOwn (model X.prog X.w) X.A X.env X.xe) (hc : X.calm = true) (hg : PG X tg (tG ts t)) (hb : PSs X body (tS cls W sb)) (hN : X.N[i]? = some x := by rfl) (hv : Vis X.env.scope x := by first | exact Or.inl rfl | exact Or.inr (Or.inl rfl) | exact Or.inr (Or.inr rfl)) (hd : (x == ("__debug__" : Str)) = false := by decide)
    (hcd : (x == ("__classdict__" : Str)) = false := by decide) (hs : ∀ v, foldedSetIterable (.Name x p) X.env v = pure v := by intro _; rfl) : PS X (.For tg (.Name x p) body [] pos) (tScF X.K cls W i ns t sb) :=
  PS_imp (ps_for hp hc (pi_list (pe_var hN hv hd hcd)) hg hb hs) fun D σ H ⟨B, S, ρ, g, I, hi, hq, h⟩ => by
    have sq := I.base.seq hq
    exact ⟨_, I.sw i hi, B.C, rfl, ⟨_, I.sub.seq sq⟩, for_core I (it_sq sq) h⟩
def whileN (c : Te) (b : Sm) : Nat → Sm
  | 0, _, _ => .bad
  | n + 1, ρ, g => match c ρ g with
    | .ok true g1 => (match b ρ g1 with
      | .nx ρ2 g2 => whileN c b n ρ2 g2
      | .ct ρ2 g2 => whileN c b n ρ2 g2
      | .bk ρ2 g2 => .nx ρ2 g2
      | .rt d g2 => .rt d g2
      | .ex k ρ2 g2 => .ex k ρ2 g2
      | .bad => .bad)
    | .ok false g1 => .nx ρ g1
    | .ex k g1 => .ex k ρ g1
    | .bad => .bad
open Classical in
noncomputable def whileS (c : Te) (b : Sm) : Sm := fun ρ g => if h : ∃ n, whileN c b n ρ g ≠ .bad then whileN c b (Classical.choose h) ρ g else .bad
theorem whileN_mono {c : Te} {b : Sm} : ∀ {n : Nat} {ρ : Nv} {g : G}, whileN c b n ρ g ≠ .bad → ∀ k, whileN c b (n + k) ρ g = whileN c b n ρ g
  | 0, ρ, g, h, k => absurd rfl h
  | n + 1, ρ, g, h, k => by
    rw [show n + 1 + k = (n + k) + 1 by omega]
    unfold whileN at h ⊢
    cases ec : c ρ g with
    | bad => rfl
    | ex m g1 => rfl
    | ok t g1 =>
      cases t with
      | false => rfl
      | true =>
        simp only [ec] at h
        simp only
        cases eb : b ρ g1 with
        | nx ρ2 g2 => simp only [eb] at h; exact whileN_mono h k
        | ct ρ2 g2 => simp only [eb] at h; exact whileN_mono h k
        | _ => rfl
theorem whileS_of {c : Te} {b : Sm} {n : Nat} {ρ : Nv} {g : G} {r : SR} (h : whileN c b n ρ g = r) (hr : r ≠ .bad) : whileS c b ρ g = r := by
  have hx : ∃ n, whileN c b n ρ g ≠ .bad := ⟨n, by rw [h]; exact hr⟩
  unfold whileS
  rw [dif_pos hx]
  have h1 := Classical.choose_spec hx
  generalize Classical.choose hx = m at h1
  rcases Nat.le_total m n with z | z
  · have q := whileN_mono h1 (n - m)
    rw [show m + (n - m) = n by omega] at q
    rw [← q, h]
  · have q := whileN_mono (n := n) (by rw [h]; exact hr) (m - n)
    rw [show n + (m - n) = m by omega] at q
    rw [q, h]
theorem psd_while {body : List Stmt} {tc : Te} {sb : Sm} (hp : PassesOwn (model X.prog X.w) X.A X.env X.xe) (hc : PT X c (tT cls W tc)) (hb : PSs X body (tS cls W sb)) : PS X (.While c body [] pos) (tS cls W (whileS tc sb)) := PS_imp (ps_while hp hc hb) fun D σ H ⟨B, S, ρ, g, I, h⟩ => by
  unfold whileS at h
  by_cases hx : ∃ n, whileN tc sb n ρ g ≠ .bad
  · rw [dif_pos hx] at h
    refine ⟨fun m σ' H' => ∃ S' ρ' g', Good B σ' H' S' ρ' g' ∧ SO cls W B S' D (whileN tc sb m ρ' g'), ⟨_, S, ρ, g, I, h⟩, ?_⟩
    rintro m σ' H' ⟨S', ρ', g', I', h'⟩
    refine ⟨B, S', ρ', g', I', ?_⟩
    cases m with
    | zero => exact False.elim h'
    | succ m =>
      unfold whileN at h'
      cases ec : tc ρ' g' with
      | bad => rw [ec] at h'; exact h'
      | ex n g1 => rw [ec] at h'; exact fun H' S' I' e => h' _ _ _ I' e.base
      | ok k g1 =>
        rw [ec] at h'
        intro H2 S2 I2 e2
        have h2 := SO_gr e2.base h'
        cases k with
        | false => exact h2 _ _ _ I2 (Same.refl _)
        | true =>
          rw [if_pos rfl]
          simp only at h2
          refine ⟨fun σ'' H'' => ∃ m', m' < m + 1 ∧ ∃ S' ρ' g', Good B σ'' H'' S' ρ' g' ∧ SO cls W B S' D (whileN tc sb m' ρ' g'), fun _ _ z => z, B, S2, ρ', g1, I2, ?_⟩
          cases eb : sb ρ' g1 with
          | nx ρ2 g2 =>
            rw [eb] at h2
            exact fun σ4 H4 S4 I4 e4 => ⟨m, by omega, S4, ρ2, g2, I4, SO_gr e4 h2⟩
          | ct ρ2 g2 =>
            rw [eb] at h2
            exact fun σ4 H4 S4 I4 e4 => ⟨m, by omega, S4, ρ2, g2, I4, SO_gr e4 h2⟩
          | bk ρ2 g2 => rw [eb] at h2; exact h2
          | rt d g2 => rw [eb] at h2; exact h2
          | ex n ρ2 g2 => rw [eb] at h2; exact h2
          | bad => rw [eb] at h2; exact h2
  · rw [dif_neg hx] at h
    exact False.elim h

/-! ### exceptions -/
/-- an own class of exceptions: n its number, x its name -/
structure ExcN (K : PySem.W.Frag) (mg : Str → Option Value) (cls : Nat → Value) (n : Nat) (x : Str) : Prop where
  ex : ∃ C : Addr, cls n = .ref C ∧ mg x = some (.ref C) ∧ PySem.W.excIn K C [.type "ValueError", .type "Exception", .type "BaseException", .type "object"] "ValueError.__new__" = true ∧ PySem.W.keepIn K (.ref C) = true ∧
    PySem.W.subIn K (.ref C) (.type "BaseException") = some true ∧ PySem.W.typeIn K (.ref C) = some (.type "type")
@[simp] def raiseS (n : Nat) : Sm := fun ρ g => .ex n ρ g
theorem psd_raise {n : Nat} {x m : Str} {j : Nat} {p p2 pos2 : Pos} (E : ExcN X.K X.mg cls n x) (hc : X.calm = true) (tk : Takes X W) (hg : Gl X x := by rfl) (hd : (x == ("__debug__" : Str)) = false := by decide) : PS X (.Raise (some (.Call (.Name x p) [.Constant (.str m) j p2] [] pos)) none pos2) (tS cls W (raiseS n)) := by
  obtain ⟨C, h1, h2, h3, h4, h5, h6⟩ := E.ex
  exact PS_imp (ps_raise hc tk (pmk_own PySem.F.excBase_ValueError h3 h2 h4 (raises_own h5 h6) hg hd)) fun D σ H ⟨B, S, ρ, g, I, h⟩ => by
    have q := h σ H S I (Same.refl _)
    rw [h1] at q
    exact q
/-- try: body / except the class n: suite; cnt classes there are -/
@[simp] def noEx : SR → SR
  | .ex _ _ _ => .bad
  | r => r
@[simp] def tryS (n cnt : Nat) (sb sh : Sm) : Sm := fun ρ g => match sb ρ g with
  | .ex m ρ1 g1 => if m = n then noEx (sh ρ1 g1) else if m < cnt then .ex m ρ1 g1 else .bad
  | r => r
theorem psd_try {n cnt : Nat} {x : Str} {np pos' : Pos} {body suite : List Stmt} {b₀ : Stmt} {sb sh : Sm} (hx : ∀ m, m < cnt → PySem.W.exmOne X.K (cls m) (cls n) = some (decide (m = n))) (hn : n < cnt) (hm : X.mg x = some (cls n)) (hs : X.stack = X.env :: X.outer) (hf : X.env.frame = some X.env.locals) (tk : Takes X W)
    (hb : ∀ (W' : WX) (pn : List (Addr × Obj)) (xe : Value → Shared → Prop), Takes (X.tr pn xe) W' → PassesOwn (model X.prog X.w) X.A X.env xe → PSs (X.tr pn xe) body (tS cls W' sb))
    (hsu : ∀ (a : Addr) (oe : Obj) (pn : List (Addr × Obj)), PSs (X.suite a ((a, oe) :: pn)) (b₀ :: suite) (tS cls W0 sh)) (hg : Gl X x := by rfl) (hd : (x == ("__debug__" : Str)) = false := by decide) :
    PS X (.Try body [.ExceptHandler (some (.Name x np)) none (b₀ :: suite) pos'] [] [] pos) (tS cls W (tryS n cnt sb sh)) :=
  PS_imp (ps_try_only (tb := fun W' => tS cls W' sb) (ts := fun _ _ _ => tS cls W0 sh) hs hf ⟨hg, hd, .inl hm⟩ tk hb fun a oe _ _ pn _ _ => hsu a oe pn) fun D σ H ⟨B, S, ρ, g, I, h⟩ => by
    unfold tryS at h
    refine ⟨B, S, ρ, g, I, ?_⟩
    cases es : sb ρ g with
    | nx ρ1 g1 => rw [es] at h; exact h
    | rt d g1 => rw [es] at h; exact h
    | bk ρ1 g1 => rw [es] at h; exact h
    | ct ρ1 g1 => rw [es] at h; exact h
    | bad => rw [es] at h; exact h
    | ex m ρ1 g1 =>
      rw [es] at h
      intro σ' H' S' I' e'
      by_cases hmn : m = n
      · subst hmn
        simp only [if_pos] at h
        refine ⟨true, by rw [hx m hn]; simp, fun _ a _ => ?_, (fun z => nomatch z)⟩
        refine ⟨B, S', ρ1, g1, I', ?_⟩
        have h2 := SO_gr e' h
        cases eh : sh ρ1 g1 with
        | nx ρ2 g2 => rw [eh] at h2; exact h2
        | rt d g2 => rw [eh] at h2; exact h2
        | bk ρ2 g2 => rw [eh] at h2; exact h2
        | ct ρ2 g2 => rw [eh] at h2; exact h2
        | bad => rw [eh] at h2; exact h2
        | ex k ρ2 g2 => rw [eh] at h2; exact False.elim h2
      · simp only [if_neg hmn] at h
        by_cases hc : m < cnt
        · rw [if_pos hc] at h
          exact ⟨false, by rw [hx m hc, decide_eq_false hmn], (fun z => nomatch z), fun _ => h σ' H' S' I' e'⟩
        · rw [if_neg hc] at h
          exact False.elim h
end

/-! ### defs -/
abbrev Fn := List PyData → G → R PyData
def FO (cls : Nat → Value) (B : Bs) (Q : VK) (E : XK) : R PyData → Prop
  | .ok d g' => ∀ v H' S', Fin B H' S' g' → Rp S' v d → Q v H'
  | .ex n g' => ∀ H' S', Fin B H' S' g' → E (cls n) none H'
  | .bad => False
/-- a def's promise: m what it computes of the data, dr whether its first argument is the draws -/
def spF (cls : Nat → Value) (ar : Nat) (dr : Bool) (m : Fn) : Sp := fun vs H Q E => vs.length = ar ∧ ∃ (A : Addr) (live : Bool) (nv : V) (S : Hp) (us : List V) (ds : List PyData) (g : G), vs = (if dr = true then .ref A :: us else us) ∧ (dr = true → live = true) ∧ Fin ⟨A, live, S, H, 0, nv⟩ H S g ∧ Rps S us ds ∧ FO cls ⟨A, live, S, H, 0, nv⟩ Q E (m ds g)
@[simp] def fnD (n : Nat) (dr : Bool) (body : Sm) : Fn := fun ds g => match body ((if dr = true then .dr :: ds.map .sh else ds.map .sh) ++ List.replicate n .no) g with
  | .nx _ g1 => .ok .none g1
  | .rt d g1 => .ok d g1
  | .ex k _ g1 => .ex k g1
  | _ => .bad
structure Kept (P : Program) (w : World) (K : PySem.W.Frag) (mg : Str → Option Value) (base : Heap) (cls : Nat → Value) (x : Str) (ps : List Str) (dr : Bool) (m : Fn) (k : Nat) : Prop where
  ex : ∃ (f : Addr) (fd : FuncData), mg x = some (.ref f) ∧ PySem.W.keepIn K (.ref f) = true ∧ L2.Binds K fd ps [] ∧ FnOk P w K mg base (L2.CX P w) k f fd ps (spF cls ps.length dr m)
section
variable {P : Program} {w : World} {K : PySem.W.Frag} {mg : Str → Option Value} {base : Heap} {cls : Nat → Value}
theorem Rps.sh {S : Hp} : ∀ {us : List V} {ds : List PyData} {i : Nat} {d : PyData}, Rps S us ds → (ds.map Sl.sh)[i]? = some (.sh d) → ∃ v, (us.map some)[i]? = some (some v) ∧ Rp S v d := fun {us ds i d} r e => by
  rw [List.getElem?_map] at e
  cases h : ds[i]? with
  | none => rw [h] at e; cases e
  | some d' =>
    rw [h] at e
    cases e
    obtain ⟨v, h1, h2⟩ := r.getD h
    exact ⟨v, by rw [List.getElem?_map, h1]; rfl, h2⟩
theorem start_good {A : Addr} {live : Bool} {nv : V} {S H : Hp} {us vs : List V} {ds : List PyData} {g : G} {dr : Bool} {N : List Str} {n : Nat} (F : Fin ⟨A, live, S, H, 0, nv⟩ H S g) (hlv : dr = true → live = true) (hv : vs = (if dr = true then .ref A :: us else us)) (r : Rps S us ds) (hn : N.length - vs.length = n) :
    Good ⟨A, live, S, H, 0, nv⟩ (L2.start N vs) H S ((if dr = true then .dr :: ds.map .sh else ds.map .sh) ++ List.replicate n .no) g := by
  have hno : ∀ (L : List Sl) (i : Nat) (z : Sl), z ≠ .no → (L ++ List.replicate n Sl.no)[i]? = some z → L[i]? = some z := fun L i z hz h => by
    by_cases hi : i < L.length
    · rw [List.getElem?_append_left hi] at h; exact h
    · rw [List.getElem?_append_right (Nat.le_of_not_lt hi), List.getElem?_replicate] at h
      split at h
      · exact absurd (Option.some.inj h).symm hz
      · cases h
  have hst : ∀ (i : Nat) (v : V), (vs.map some)[i]? = some (some v) → (L2.start N vs)[i]? = some (some v) := fun i v h => by
    unfold L2.start
    rw [List.getElem?_append_left (List.getElem?_eq_some_iff.mp h).1]
    exact h
  have hnoow : ∀ (i : Nat) (b : Ob), ((if dr = true then Sl.dr :: ds.map .sh else ds.map .sh) ++ List.replicate n Sl.no)[i]? ≠ some (.ow b) := fun i b h => by
    have h' := hno _ _ (.ow b) (fun z => nomatch z) h
    cases dr with
    | true =>
      rw [if_pos rfl] at h'
      cases i with
      | zero => cases h'
      | succ i =>
        rw [List.getElem?_cons_succ, List.getElem?_map] at h'
        cases e : ds[i]? with
        | none => rw [e] at h'; cases h'
        | some d => rw [e] at h'; cases h'
    | false =>
      rw [if_neg (by decide)] at h'
      rw [List.getElem?_map] at h'
      cases e : ds[i]? with
      | none => rw [e] at h'; cases h'
      | some d => rw [e] at h'; cases h'
  refine ⟨F, ?_, fun i d h => ?_, fun i h => ?_, fun i h => ?_, fun i b h => absurd h (hnoow i b), (fun i j b c a h _ _ _ => absurd h (hnoow i b)), fun i rows a cs h _ _ => absurd h (hnoow i _)⟩
  · unfold L2.start
    rw [List.length_append, List.length_append, List.length_map, List.length_replicate, List.length_replicate, hn, hv]
    cases dr with
    | true => rw [if_pos rfl, if_pos rfl, List.length_cons, List.length_cons, List.length_map, r.length]
    | false => rw [if_neg (by decide), if_neg (by decide), List.length_map, r.length]
  · have h' := hno _ _ (.sh d) (fun z => nomatch z) h
    cases dr with
    | true =>
      rw [if_pos rfl] at h' hv
      subst hv
      cases i with
      | zero => cases h'
      | succ i =>
        obtain ⟨v, h1, h2⟩ := r.sh (i := i) (d := d) h'
        exact ⟨v, hst _ _ h1, h2⟩
    | false =>
      rw [if_neg (by decide)] at h' hv
      subst hv
      obtain ⟨v, h1, h2⟩ := r.sh h'
      exact ⟨v, hst _ _ h1, h2⟩
  · have h' := hno _ _ .dr (fun z => nomatch z) h
    cases dr with
    | true =>
      rw [if_pos rfl] at h' hv
      subst hv
      cases i with
      | zero => exact ⟨hst _ _ rfl, hlv rfl⟩
      | succ i =>
        rw [List.getElem?_cons_succ, List.getElem?_map] at h'
        cases e : ds[i]? with
        | none => rw [e] at h'; cases h'
        | some d => rw [e] at h'; cases h'
    | false =>
      rw [if_neg (by decide)] at h'
      rw [List.getElem?_map] at h'
      cases e : ds[i]? with
      | none => rw [e] at h'; cases h'
      | some d => rw [e] at h'; cases h'
  · have h' := hno _ _ .sc (fun z => nomatch z) h
    cases dr with
    | true =>
      rw [if_pos rfl] at h'
      cases i with
      | zero => cases h'
      | succ i =>
        rw [List.getElem?_cons_succ, List.getElem?_map] at h'
        cases e : ds[i]? with
        | none => rw [e] at h'; cases h'
        | some d => rw [e] at h'; cases h'
    | false =>
      rw [if_neg (by decide)] at h'
      rw [List.getElem?_map] at h'
      cases e : ds[i]? with
      | none => rw [e] at h'; cases h'
      | some d => rw [e] at h'; cases h'
/-- THE RULE for a def -/
theorem fn_ok {x : Str} {st : Stmt} {N ps : List Str} {k : Nat} {dr : Bool} {body : Sm} (Fx : ∃ (f : Addr) (fd : FuncData), Fun K x x st f fd ∧ mg x = some (.ref f) ∧ L2.Binds K fd ps []) (S : FnScope N ps (defScope st))
    (hd : ∀ (f : Addr) (cdv : Value) (A : Around) (outer : List PySem.Env) (s : Shared) (H : Hp) (E : XK), Room k (A.deeper (envOfC x (defScope st) s.heap.objs.size f cdv)) →
      PSs (cxOf (L2.CX P w) P w K mg base N x (defScope st) f cdv A outer s H E) (defBody st) (tS cls (fun c d _ H => E c d H) body)) {n : Nat} (hn : N.length - ps.length = n := by rfl) :
    Kept P w K mg base cls x ps dr (fnD n dr body) (k + 1) := by
  obtain ⟨f, fd, F, hm, hb⟩ := Fx
  refine ⟨f, fd, hm, F.kp, hb, F.okX S (fun vs H Q E h => h.1) fun cdv A outer s H vs Q E hr h => ?_⟩
  obtain ⟨hl, A1, live, nv, S1, us, ds, g, hv, hlive, Fi, r, h⟩ := h
  refine ⟨_, hd f cdv A outer s H E hr, ⟨A1, live, S1, H, 0, nv⟩, S1, (if dr = true then .dr :: ds.map .sh else ds.map .sh) ++ List.replicate n .no, g, start_good Fi hlive hv r (by rw [hl]; exact hn), ?_⟩
  unfold fnD at h
  cases eb : body ((if dr = true then .dr :: ds.map .sh else ds.map .sh) ++ List.replicate n .no) g with
  | nx ρ1 g1 => rw [eb] at h; exact fun σ' H' S' I' _ => h .non H' S' I'.toFin .non
  | rt d g1 => rw [eb] at h; exact fun v H' S' F' r' => h v H' S' F' r'
  | ex n ρ1 g1 => rw [eb] at h; exact fun σ' H' S' I' _ => h H' S' I'.toFin
  | bk ρ1 g1 => rw [eb] at h; exact False.elim h
  | ct ρ1 g1 => rw [eb] at h; exact False.elim h
  | bad => rw [eb] at h; exact h
end
section
variable {X : Cx} {cls : Nat → Value} {W : WX} {pos p : Pos} {e : Expr} {es : List Expr} {fa : Ar} {x : Str} {ps : List Str} {m : Fn} {j k : Nat}
theorem Good.after {B : Bs} {σ : L2.St} {H S H' S' : Hp} {ρ : Nv} {g g' : G} (I : Good B σ H S ρ g) (F : Fin ⟨B.A, B.live, S, H, 0, B.N⟩ H' S' g') : Good B σ H' S' ρ g' ∧ Gr B H S H' S' := by
  have e : Gr B H S H' S' := ⟨F.keep, F.base, F.new, F.there⟩
  refine ⟨I.grow e F.sub ?_, e⟩
  have d := F.dr
  cases g' with
  | none => exact d
  | some q => exact d
theorem Good.fin0 {B : Bs} {σ : L2.St} {H S : Hp} {ρ : Nv} {g : G} (I : Good B σ H S ρ g) : Fin ⟨B.A, B.live, S, H, 0, B.N⟩ H S g := by
  refine ⟨I.sub, fun _ _ h _ => h, Same.refl _, fun _ h => .inl h, fun _ h => h, I.no, ?_⟩
  have d := I.dr
  cases g with
  | none => exact d
  | some q => exact d
@[simp] def callD (ar : Nat) (m : Fn) (fa : Ar) : Ex := fun ρ g => (fa ρ g).bind fun ds g1 => if ds.length = ar then m ds g1 else .bad
theorem pd_call (F : Kept X.prog X.w X.K X.mg X.base cls x ps false m j) (hr : Room k X.A) (hjk : j ≤ k) (tk : Takes X W) (ha : PA X (e :: es) (tA cls W fa)) (hg : Gl X x := by rfl) (hdb : (x == ("__debug__" : Str)) = false := by decide)
    (he : starEach (e :: es) X.env = (false, eval e X.env) :: starEach es X.env := by rfl) (hpl : (backTo pos (starEach es X.env)).any (·.1) = false := by rfl) {ar : Nat} (har : ps.length = ar := by rfl) : PE X (.Call (.Name x p) (e :: es) [] pos) (tE cls W (callD ar m fa)) := by
  subst har
  obtain ⟨f, fd, hm, hk, hb, F⟩ := F.ex
  exact PE_imp (pe_callS F (hr.mono hjk) hg hm hk hb (fun σ => passAt tk σ) ha hdb he hpl) fun σ H Q ⟨B, S, ρ, g, I, h⟩ => by
    unfold callD at h
    refine ⟨B, S, ρ, g, I, ?_⟩
    cases ea : fa ρ g with
    | bad => rw [ea] at h; exact h
    | ex n g1 => rw [ea] at h; exact h
    | ok ds g1 =>
      rw [ea] at h
      intro vs H1 S1 I1 e1 r1
      have h' := EO_gr e1 h
      simp only [R.bind_ok] at h'
      by_cases hl : ds.length = ps.length
      · rw [if_pos hl] at h'
        refine ⟨by rw [r1.length]; exact hl, B.A, B.live, B.N, S1, vs, ds, g1, rfl, (fun z => nomatch z), I1.fin0, r1, ?_⟩
        cases em : m ds g1 with
        | ok d g2 =>
          rw [em] at h'
          intro v H2 S2 F2 r2
          obtain ⟨I2, e2⟩ := I1.after F2
          exact h' v H2 S2 I2 e2 r2
        | ex n g2 =>
          rw [em] at h'
          intro H2 S2 F2
          obtain ⟨I2, e2⟩ := I1.after F2
          exact h' H2 S2 I2 e2
        | bad => rw [em] at h'; exact h'
      · rw [if_neg hl] at h'
        exact False.elim h'
/-- f(draws, ..): the draws stand in slot i -/
@[simp] def callG (ar i : Nat) (m : Fn) (fa : Ar) : Ex := fun ρ g => match ρ[i]? with
  | some .dr => (fa ρ g).bind fun ds g1 => if ds.length + 1 = ar then m ds g1 else .bad
  | _ => .bad
theorem pd_callG (i : Nat) {y : Str} {py : Pos} (F : Kept X.prog X.w X.K X.mg X.base cls x ps true m j) (hr : Room k X.A) (hjk : j ≤ k) (tk : Takes X W) (ha : PA X es (tA cls W fa)) (hN : X.N[i]? = some y := by rfl) (hv : Vis X.env.scope y := by first | exact Or.inl rfl | exact Or.inr (Or.inl rfl) | exact Or.inr (Or.inr rfl)) (hd : (y == ("__debug__" : Str)) = false := by decide)
    (hcd : (y == ("__classdict__" : Str)) = false := by decide) (hg : Gl X x := by rfl) (hdb : (x == ("__debug__" : Str)) = false := by decide)
    (he : starEach (.Name y py :: es) X.env = (false, eval (.Name y py) X.env) :: starEach es X.env := by rfl) (hpl : (backTo pos (starEach es X.env)).any (·.1) = false := by rfl) {ar : Nat} (har : ps.length = ar := by rfl) : PE X (.Call (.Name x p) (.Name y py :: es) [] pos) (tE cls W (callG ar i m fa)) := by
  subst har
  obtain ⟨f, fd, hm, hk, hb, F⟩ := F.ex
  exact PE_imp (pe_callS F (hr.mono hjk) hg hm hk hb (fun σ => passAt tk σ) (pa_cons (pe_var hN hv hd hcd) ha he) hdb he hpl) fun σ H Q ⟨B, S, ρ, g, I, h⟩ => by
    unfold callG at h
    cases ei : ρ[i]? with
    | none => rw [ei] at h; exact False.elim h
    | some z =>
      cases z with
      | dr =>
        rw [ei] at h
        refine ⟨_, (I.dw i ei).1, B, S, ρ, g, I, ?_⟩
        simp only at h
        cases ea : fa ρ g with
        | bad => rw [ea] at h; exact h
        | ex n g1 => rw [ea] at h; exact h
        | ok ds g1 =>
          rw [ea] at h
          intro vs H1 S1 I1 e1 r1
          have h' := EO_gr e1 h
          simp only [R.bind_ok] at h'
          by_cases hl : ds.length + 1 = ps.length
          · rw [if_pos hl] at h'
            have hlive : B.live = true := (I.dw i ei).2
            refine ⟨by rw [List.length_cons, r1.length]; exact hl, B.A, B.live, B.N, S1, vs, ds, g1, rfl, fun _ => hlive, I1.fin0, r1, ?_⟩
            cases em : m ds g1 with
            | ok d g2 =>
              rw [em] at h'
              intro v H2 S2 F2 r2
              obtain ⟨I2, e2⟩ := I1.after F2
              exact h' v H2 S2 I2 e2 r2
            | ex n g2 =>
              rw [em] at h'
              intro H2 S2 F2
              obtain ⟨I2, e2⟩ := I1.after F2
              exact h' H2 S2 I2 e2
            | bad => rw [em] at h'; exact h'
          · rw [if_neg hl] at h'
            exact False.elim h'
      | _ => rw [ei] at h; exact False.elim h
end
end DL

set_option Elab.async false
set_option linter.all false
set_option maxRecDepth 100000
set_option maxHeartbeats 400000
/-! ### t[::-1] of a tuple -/
namespace DLT
open PySem PyProof.Rows HT
open PySem.SeqAt
open PySem.AutoSeq1 (wpAny_loadPart')
open PySem.MeetsSeq PySem.MeetsSeq2 PySem.MeetsSeq3
section
variable {prog : Program} {w : World} {A : Around} {E : Value → Shared → Prop} {s : Shared}
theorem applied_rev {sl : Addr} {vl vu vs : Value} {n : Nat} {Q : Int × Int × Nat → Shared → Prop} (hs : s.heap.IsSliceOf sl vl vu vs) (pl : IsPart vl none) (pu : IsPart vu none) (ps : IsPart vs (some (-1)))
    (h : Q ((n : Int) - 1, -1, n) s) : wpAny (model prog w) A (Builtin.Slice.sliceApplied (.ref sl) (pure (n : Int))) Q E s := by
  obtain ⟨os, hos, hcs, hds⟩ := id hs
  unfold Builtin.Slice.sliceApplied Builtin.Slice.sliceFields
  refine wpAny_bind (wpAny_bind (wpAny_field hos hds (x := vl) rfl (wpAny_bind (wpAny_field hos hds (x := vu) rfl (wpAny_bind (wpAny_field hos hds (x := vs) rfl (wpAny_pure ?_)))))))
  refine wpAny_bind (slicePart_ ps ?_)
  show wpAny _ _ (if ((-1 : Int) == 0) = true then _ else _) _ _ s
  rw [if_neg (by decide)]
  refine wpAny_bind (slicePart_ pl (wpAny_bind (slicePart_ pu (wpAny_bind (wpAny_pure ?_)))))
  show wpAny _ _ (pure ((n : Int) - 1, (-1 : Int), Builtin.Slice.slicePlaces ((n : Int) - 1) (-1) (-1))) _ _ s
  have e : Builtin.Slice.slicePlaces ((n : Int) - 1) (-1) (-1) = n := by
    unfold Builtin.Slice.slicePlaces
    have h1 : ¬ ((-1 : Int) > 0) := by decide
    rw [if_neg h1]
    by_cases hn : (n : Int) - 1 > -1
    · rw [if_pos hn, show (-(-1 : Int)) = 1 by decide, Int.ediv_one]
      omega
    · rw [if_neg hn]
      omega
  rw [e]
  exact wpAny_pure h
theorem pick_rev (xs : Array Value) : ((List.range xs.size).filterMap fun (k : Nat) => xs[(((xs.size : Int) - 1) + (k : Int) * -1).toNat]?).toArray = xs.toList.reverse.toArray := by
  have e : (fun (k : Nat) => xs[(((xs.size : Int) - 1) + (k : Int) * -1).toNat]?) = fun k => xs[xs.size - 1 - k]? := by
    funext k
    have : (((xs.size : Int) - 1) + (k : Int) * -1).toNat = xs.size - 1 - k := by omega
    rw [this]
  rw [e]
  have q := PySem.W.krv_range xs.size
  have r : (List.range xs.size).filterMap (fun k => xs[xs.size - 1 - k]?) = ((List.range xs.size).map (fun k => xs.size - 1 - k)).filterMap (xs[·]?) := by
    rw [List.filterMap_map]
    rfl
  rw [r, q, List.filterMap_reverse, PySem.W.krv_all]
theorem getItem_tuple_rev {t sl : Addr} {items : Array Value} {vl vu vs : Value} {Q : Value → Shared → Prop} (ht : IsTup s.heap t items) (hs : s.heap.IsSliceOf sl vl vu vs) (pl : IsPart vl none) (pu : IsPart vu none) (ps : IsPart vs (some (-1)))
    (h : Q (.ref s.heap.objs.size) { s with heap := s.heap.push { cls := .type "tuple", data := .seq items.toList.reverse.toArray } })
    (hsz : items.size ≤ sizeLine) : wpAny (model prog w) A (getItem (.ref t) (.ref sl)) Q E s := by
  have htake : sizeOk (.seq items.toList.reverse.toArray) := by
    show items.toList.reverse.toArray.size ≤ sizeLine
    rw [List.size_toArray, List.length_reverse, Array.length_toList]
    exact hsz
  obtain ⟨os, hos, hcs, hds⟩ := id hs
  have hTs : s.TypeIs (.ref sl) "slice" := ⟨os, hos, hcs⟩
  unfold getItem
  try with_reducible refine wpAny_holding ?_
  first | refine wpAny_bind (wpAny_pure ?_) | skip
  refine wpAny_bind (wpAny_sequenceKey ht.typeIs (by decide) ?_)
  refine wpAny_bind (wpAny_callSpecial?_slot (name := Str.ofString "__getitem__") ht.typeIs PyProof.Rows.slot_tuple_getitem
    (wpAny_call_entry PyProof.Rows.slot_tuple_getitem ht.typeIs entry_tuple_getitem ?_ (args_tuple_getitem _ _)))
  show wpAny _ _ (Builtin.Tuple.tupleItemsOf (.ref t) >>= _) _ _ s
  refine wpAny_bind (tupleItemsOf_ ht ?_)
  refine wpAny_bind (wpAny_typeOf hTs ?_)
  rw [if_pos (by decide)]
  refine wpAny_bind (applied_rev hs pl pu ps ?_)
  have hno : ¬ ((((items.size : Int) - 1) == 0 && (-1 : Int) == 1 && items.size == items.size) = true) := by simp
  show wpAny _ _ (if (((items.size : Int) - 1) == 0 && (-1 : Int) == 1 && items.size == items.size) = true then _ else _) _ _ s
  rw [if_neg hno, pick_rev]
  first
    | exact wpAny_bind (m := Builtin.Tuple.tupleExact _) (wpAny_newObj_type (wpAny_pure ⟨_, rfl, wpAny_pure h⟩) htake)
    | exact wpAny_bind (m := Builtin.Tuple.tupleExact _) (wpAny_newObj_type (wpAny_bind (wpAny_pure (wpAny_pure ⟨_, rfl, wpAny_pure h⟩))) htake)
    | exact wpAny_bind (wpAny_bind (m := Builtin.Tuple.tupleExact _) (wpAny_newObj_type (wpAny_pure (wpAny_pure ⟨_, rfl, wpAny_pure h⟩)) htake))
    | exact wpAny_bind (wpAny_bind (m := Builtin.Tuple.tupleExact _) (wpAny_newObj_type (wpAny_pure ⟨_, rfl, wpAny_pure h⟩) htake))
end
end DLT
namespace DL
open PySem PySem.Spec PyProof.Rows L2
section
variable {X : Cx} {cls : Nat → Value} {W : WX} {pos : Pos} {a b c : Expr} {fa fb fc : Ex} {k : Nat}
/-! ### x[::-1] -/
def tRevT (K : PySem.W.Frag) (te : TE) : TE := fun σ H Q => te σ H fun x H1 => ∃ a xs, x = .ref a ∧ SqT K H1 a xs ∧ ∀ p, H1 p = none → Q (.ref p) (upd H1 p (.tup xs.reverse))
theorem pe_revT {e : Expr} {te : TE} {k : Nat} {p1 p2 p3 pos : Pos} (he : PE X e te) : PE X (.Subscript e (.Slice none none (some (.UnaryOp .USub (.Constant (.int 1) k p1) p2)) p3) pos) (tRevT X.K te) := by
  refine ⟨fun pins s σ H Q I h => ?_⟩
  refine Subscript_ (thn (he.run pins s σ H _ I h) fun v s1 ⟨x, H1, I1, r1, q1⟩ => ?_)
  obtain ⟨a, xs, ex, hx, q⟩ := q1
  subst ex
  cases r1
  have hst : PO X (some (.UnaryOp .USub (.Constant (.int 1) k p1) p2)) (tPart (tUn (rU fun i => .int (-i)) (tC (.int 1)))) := po_some (pe_un un_neg pe_int)
  refine wpAny_Slice (thn (po_none.run pins s1 σ H1 (fun o H2 => o = none ∧ H2 = H1) I1 ⟨rfl, rfl⟩) fun vl s2 ⟨l, H2, I2, pl, el, e2⟩ => ?_)
  subst el e2
  refine thn (po_none.run pins s2 σ H2 (fun o H3 => o = none ∧ H3 = H2) I2 ⟨rfl, rfl⟩) fun vu s3 ⟨u, H3, I3, pu, eu, e3⟩ => ?_
  subst eu e3
  refine thn (hst.run pins s3 σ H3 (fun o H4 => o = some (-1) ∧ H4 = H3) I3 ⟨1, rfl, -1, rfl, rfl, rfl⟩) fun vs s4 ⟨o, H4, I4, ps, eo, e4⟩ => ?_
  subst eo e4
  have I5 : Inv X pins σ H4 { s4 with heap := s4.heap.push { cls := .type "slice", data := .fields #[vl, vu, vs] } } := I4.kept (t' := s4.toks) fun b ob q => Heap.get?_push_of_some _ q
  obtain ⟨its, r, ht, hz⟩ := I5.tuple hx
  have hlen := r.length
  show wpAny (model X.prog X.w) X.A (subscriptTail e (.Slice none none (some (.UnaryOp .USub (.Constant (.int 1) k p1) p2)) p3) (.ref a) (.ref s4.heap.objs.size)) (EP X pins σ Q) X.xe { s4 with heap := s4.heap.push { cls := .type "slice", data := .fields #[vl, vu, vs] } }
  refine tail_any (ops := [.ref a, .ref s4.heap.objs.size]) ht.typeIs (PyProof.Rows.slot_tuple_getitem.lookup) ?_ (by with_unfolding_all rfl)
  refine DLT.getItem_tuple_rev ht (Heap.IsSliceOf.new _ vl vu vs) pl pu ps ?_ (by rw [List.size_toArray]; omega)
  refine ⟨.ref _, _, I5.laid (t' := s4.toks) (o := .tup xs.reverse) (fun b ob q => Heap.get?_push_of_some _ q) (Nat.le_refl _) ?_, rfl, q _ (I5.hok.fresh (Nat.le_refl _))⟩
  exact ⟨by rw [List.length_reverse]; exact hz, _, r.reverse, ⟨_, Heap.get?_push_size _ rfl, rfl, _, rfl⟩⟩
@[simp] def revD : PyData → Option PyData
  | .list ds => some (.list ds.reverse)
  | .tuple ds => some (.tuple ds.reverse)
  | _ => none
theorem pd_rev {e : Expr} {k : Nat} {p1 p2 p3 pos : Pos} (he : PE X e (tE cls W fa)) : PE X (.Subscript e (.Slice none none (some (.UnaryOp .USub (.Constant (.int 1) k p1) p2)) p3) pos) (tE cls W (unD revD fa)) := by
  refine ⟨fun pins s σ H Q I0 h => ?_⟩
  obtain ⟨B, S, ρ, g, I, h⟩ := h
  unfold unD at h
  cases ea : fa ρ g with
  | bad => rw [ea] at h; exact False.elim h
  | ex n g1 =>
    rw [ea] at h
    refine (pe_revL he).run pins s σ H Q I0 ⟨B, S, ρ, g, I, ?_⟩
    rw [ea]
    exact h
  | ok x g1 =>
    rw [ea] at h
    simp only [R.bind_ok] at h
    cases x with
    | list ds =>
      refine (pe_revL he).run pins s σ H Q I0 ⟨B, S, ρ, g, I, ?_⟩
      rw [ea]
      intro v H1 S1 I1 e1 r1
      cases r1 with
      | @lst p xs ds hx qx =>
        refine ⟨p, xs, rfl, .of (I1.sub _ _ hx), fun q hq => ?_⟩
        obtain ⟨I2, e2⟩ := I1.alloc (o := .lst xs.reverse) hq
        exact h _ _ _ I2 (e1.trans e2) (.lst upd_same (qx.reverse.mono e2.base))
    | tuple ds =>
      refine (pe_revT he).run pins s σ H Q I0 ⟨B, S, ρ, g, I, ?_⟩
      rw [ea]
      intro v H1 S1 I1 e1 r1
      cases r1 with
      | @tup p xs ds hx qx =>
        refine ⟨p, xs, rfl, .of (I1.sub _ _ hx), fun q hq => ?_⟩
        obtain ⟨I2, e2⟩ := I1.alloc (o := .tup xs.reverse) hq
        exact h _ _ _ I2 (e1.trans e2) (.tup upd_same (qx.reverse.mono e2.base))
    | _ => exact False.elim h
/-! ### the draws' object -/
/-- draws[0], draws[1]: the draws in slot i -/
@[simp] def dr0 (i : Nat) : Ex := fun ρ g => match ρ[i]?, g with
  | some .dr, some (ns, _) => .ok (.list (ns.map PyData.int)) g
  | _, _ => .bad
@[simp] def dr1 (i : Nat) : Ex := fun ρ g => match ρ[i]?, g with
  | some .dr, some (_, j) => .ok (.int j) g
  | _, _ => .bad
variable {x : Str} {p p2 : Pos} {j : Nat}
theorem pd_dr0 (i : Nat) (hN : X.N[i]? = some x := by rfl) (hv : Vis X.env.scope x := by first | exact Or.inl rfl | exact Or.inr (Or.inl rfl) | exact Or.inr (Or.inr rfl)) (hd : (x == ("__debug__" : Str)) = false := by decide) (hcd : (x == ("__classdict__" : Str)) = false := by decide) :
    PE X (.Subscript (.Name x p) (.Constant (.int 0) j p2) pos) (tE cls W (dr0 i)) := PE_imp (pe_ix ix_list (pe_var hN hv hd hcd) pe_int (fun _ _ => rfl)) fun σ H Q ⟨B, S, ρ, g, I, h⟩ => by
  unfold dr0 at h
  split at h
  · rename_i ns k ei
    obtain ⟨_, h1, h2⟩ := (show DrAt B H S (some (ns, k)) from I.dr)
    exact ⟨_, (I.dw i ei).1, B.A, _, 0, B.N, rfl, rfl, .of h1, rfl, h B.N H S I .refl h2⟩
  · exact False.elim h
theorem pd_dr1 (i : Nat) (hN : X.N[i]? = some x := by rfl) (hv : Vis X.env.scope x := by first | exact Or.inl rfl | exact Or.inr (Or.inl rfl) | exact Or.inr (Or.inr rfl)) (hd : (x == ("__debug__" : Str)) = false := by decide) (hcd : (x == ("__classdict__" : Str)) = false := by decide) :
    PE X (.Subscript (.Name x p) (.Constant (.int 1) j p2) pos) (tE cls W (dr1 i)) := PE_imp (pe_ix ix_list (pe_var hN hv hd hcd) pe_int (fun _ _ => rfl)) fun σ H Q ⟨B, S, ρ, g, I, h⟩ => by
  unfold dr1 at h
  split at h
  · rename_i ns k ei
    obtain ⟨_, h1, h2⟩ := (show DrAt B H S (some (ns, k)) from I.dr)
    exact ⟨_, (I.dw i ei).1, B.A, _, 1, .int k, rfl, rfl, .of h1, rfl, h _ H S I .refl (.int k)⟩
  · exact False.elim h
/-- draws[1] = e -/
def drSetS (i : Nat) (f : Ex) : Sm := stE f fun d ρ g => match ρ[i]?, g, d with
  | some .dr, some (ns, _), .int j => .nx ρ (some (ns, j))
  | _, _, _ => .bad
theorem Good.setDr {B : Bs} {σ : L2.St} {H S : Hp} {ρ : Nv} {ns : List Int} {k j : Int} (I : Good B σ H S ρ (some (ns, k))) (h1 : H B.A = some (.lst [B.N, .int k])) (h2 : Rp S B.N (.list (ns.map PyData.int))) : Good B σ (upd H B.A (.lst [B.N, .int j])) S ρ (some (ns, j)) := by
  obtain ⟨hl, _⟩ := (show DrAt B H S (some (ns, k)) from I.dr)
  have no := I.no hl
  refine ⟨⟨fun c o q => ?_, fun c o q n => ?_, I.base, I.new, fun c q => ?_, I.no, ⟨hl, upd_same, h2⟩⟩, I.len, I.sh, I.dw, I.sw, fun i b h => ?_, I.ap, I.mxMove (Same.refl _) (fun i b h => ⟨⟨b, h⟩, rfl⟩) (fun i rows h => h) (fun i rows a h h' => ?_) fun i rows a cs _ h h' h2' c hc => ?_⟩
  · rw [upd_ne (ne_of_none q no)]; exact I.sub _ _ q
  · rw [upd_ne (n hl)]; exact I.keep c o q n
  · by_cases hc : c = B.A
    · subst hc; rw [upd_same]; simp
    · rw [upd_ne hc]; exact I.there c q
  · obtain ⟨a, o, q1, q2, q3, q4, q5, q6⟩ := I.ow i b h
    exact ⟨a, o, q1, q2, q3, q4, by rw [upd_ne (q3 hl)]; exact q5, q6⟩
  · obtain ⟨a0, o, q1, q2, q3, _⟩ := I.ow i _ h
    have e := addr_of h' q1
    subst e
    exact upd_ne (q3 hl)
  · have R := (I.mx i rows a cs h h' h2').1.row (I.rowsAt h h' h2') hc
    exact ⟨upd_ne (R.2.1 hl), R.1⟩
theorem psd_drSet (i : Nat) {pos' : Pos} (ha : PE X a (tE cls W fa)) (hN : X.N[i]? = some x := by rfl) (hv : Vis X.env.scope x := by first | exact Or.inl rfl | exact Or.inr (Or.inl rfl) | exact Or.inr (Or.inr rfl)) (hd : (x == ("__debug__" : Str)) = false := by decide) (hcd : (x == ("__classdict__" : Str)) = false := by decide)
    (h0 : ∀ v, assign (.Subscript (.Name x p) (.Constant (.int 1) j p2) pos') X.env v = (do
      let ov ← holding [v] (eval (.Name x p) X.env)
      let iv ← holding [v, ov] (eval (.Constant (.int 1) j p2) X.env)
      standAt pos'
      holding [v, ov, iv] (setItem ov iv v)
      release [v, ov, iv] []) := by intro _; rfl)
    (hs : swapsWithSole [.Subscript (.Name x p) (.Constant (.int 1) j p2) pos'] a pos.line X.env = pure false := by rfl) (hw : swappedStores [.Subscript (.Name x p) (.Constant (.int 1) j p2) pos'] a X.env = pure none := by rfl)
    (h1 : (assignEach [.Subscript (.Name x p) (.Constant (.int 1) j p2) pos'] X.env).map (·.2) = [assign (.Subscript (.Name x p) (.Constant (.int 1) j p2) pos') X.env] := by rfl) :
    PS X (.Assign [.Subscript (.Name x p) (.Constant (.int 1) j p2) pos'] a pos) (tS cls W (drSetS i fa)) :=
  PS_imp (ps_asg ha (pg_sub (pe_var hN hv hd hcd) pe_int set_list h0) hs hw h1) fun D σ H h => st_of h fun B S ρ g d v H1 I r q => by
    split at q
    · rename_i ns k m ei
      cases r with
      | int m =>
        obtain ⟨hl, e1, e2⟩ := (show DrAt B H1 S (some (ns, k)) from I.dr)
        exact ⟨_, (I.dw i ei).1, B.A, _, 1, 1, rfl, rfl, e1, rfl, q _ _ _ (I.setDr e1 e2) (Same.refl _)⟩
    · exact False.elim q
/-! ### more -/
theorem psd_aug_add (i : Nat) {x : Str} {pos' : Pos} (hN : X.N.Nodup) (ha : PE X a (tE cls W fa)) (hi : X.N[i]? = some x := by rfl) (hx : Loc X.env.scope x := by first | exact Or.inl rfl | exact Or.inr rfl)
    (hf : X.fn x = true ∨ X.env.scope.names.lookup x = some .local := by first | exact .inl rfl | exact .inr rfl | assumption) : PS X (.AugAssign (.Name x pos') .Add a pos) (tS cls W (setS i (opD (fun x y => match x, y with | .int i, .int j => some (.int (i + j)) | _, _ => none) (varD i) fa))) :=
  PS_imp (ps_aug hN hi hx ha ip_add hf) fun D σ H ⟨B, S, ρ, g, I, h⟩ => by
    unfold setS stE opD varD at h
    cases e : ρ[i]? with
    | none => simp only [e, R.bind_bad] at h; exact False.elim h
    | some z =>
      cases z with
      | sh d =>
        simp only [e, R.bind_ok] at h
        obtain ⟨v, h1, h2⟩ := I.sh i d e
        refine ⟨v, h1, B, S, ρ, g, I, ?_⟩
        cases ea : fa ρ g with
        | bad => rw [ea] at h; exact h
        | ex n g1 => rw [ea] at h; exact fun H' S' I' e => h _ _ _ I' e.base
        | ok y g1 =>
          rw [ea] at h
          simp only [R.bind_ok] at h
          intro u H1 S1 I1 e1 r1
          cases h2 with
          | int m =>
            cases r1 with
            | int n => exact ⟨m, n, rfl, rfl, h _ _ _ (I1.setSh i (.int _)) e1.base⟩
            | _ => exact False.elim h
          | _ => exact False.elim h
      | _ => simp only [e, R.bind_bad] at h; exact False.elim h
/-- a body that never ends well: for what is never come to -/
theorem pssd_bad {sts : List Stmt} : PSs X sts (tS cls W fun _ _ => .bad) := PSs_imp pss_never fun D σ H ⟨B, S, ρ, g, I, h⟩ => h
end
end DL

set_option Elab.async false
set_option linter.all false
set_option maxRecDepth 100000
set_option maxHeartbeats 400000
namespace DL
open PySem PySem.Spec PyProof.Rows L2
section
variable {P : Program} {w : World} {K : PySem.W.Frag} {mg : Str → Option Value} {base : Heap} {cls : Nat → Value}
theorem kept_bad {x : Str} {st : Stmt} {ps : List Str} {k : Nat} {dr : Bool} (Fx : ∃ (f : Addr) (fd : FuncData), Fun K x x st f fd ∧ mg x = some (.ref f) ∧ L2.Binds K fd ps []) : Kept P w K mg base cls x ps dr (fun _ _ => .bad) k := by
  obtain ⟨f, fd, F, hm, hb⟩ := Fx
  refine ⟨f, fd, hm, F.kp, hb, ⟨fun vs H Q E h => h.1, fun A outer s H args us vs Q E hr he hb hv hs => ?_⟩⟩
  obtain ⟨_, _, _, _, _, _, _, _, _, _, _, _, h⟩ := hs
  exact False.elim h
theorem Kept.mono {x : Str} {ps : List Str} {dr : Bool} {m : Fn} {j k : Nat} (F : Kept P w K mg base cls x ps dr m j) (h : j ≤ k) : Kept P w K mg base cls x ps dr m k := by
  obtain ⟨f, fd, h1, h2, h3, h4⟩ := F.ex
  exact ⟨f, fd, h1, h2, h3, h4.mono h⟩
/-! ### the script's numbers -/
def Small (ms : List Int) : Prop := ms.length ≤ 4000 ∧ ∀ m ∈ ms, 0 ≤ m ∧ m < 1000000
def spNum (K : PySem.W.Frag) : Sp := fun vs H Q _ => vs.length = 1 ∧ ∃ (a : Addr) (ns : List Int), vs = [.ref a] ∧ SqL K H a (ns.map V.int) ∧ ns.length ≤ 63 ∧ Only H ∧
  ∀ (p : Addr) (H' : Hp) (ms : List Int), Same H H' → H p = none → H' p = some (.lst (ms.map V.int)) → Small ms → Q (.ref p) H'
/-- what stands locked -/
def locked (H : Hp) : Hp := fun b => match H b with
  | some (.frz o u) => some (.frz o u)
  | _ => none
theorem locked_some {H : Hp} {b : Addr} {o : HO} (h : locked H b = some o) : H b = some o ∧ ∃ o' u, o = .frz o' u := by
  unfold locked at h
  split at h
  · rename_i o' u e
    cases h
    exact ⟨e, _, _, rfl⟩
  · cases h
theorem sq_locked {H : Hp} {a : Addr} {xs : List V} (ho : Only H) (h : SqL K H a xs) : SqL K (locked H) a xs := by
  rcases h with (h | ⟨o, h⟩) | h
  · rcases ho a with z | ⟨o, ys, z⟩
    · rw [z] at h; cases h
    · rw [z] at h; cases h
  · refine .inl (.inr ⟨o, ?_⟩)
    unfold locked
    rw [h]
  · exact .inr h
theorem num_start {H : Hp} {a : Addr} {N : List Str} {n : Nat} (hn : N.length - 1 = n) : Good ⟨0, false, locked H, H, a, .non⟩ (L2.start N [.ref a]) H (locked H) (.sc :: List.replicate n .no) none := by
  have rep : ∀ (i : Nat) (z : Sl), z ≠ .no → (List.replicate n Sl.no)[i]? ≠ some z := fun i z hz h => by
    rw [List.getElem?_replicate] at h
    split at h
    · exact hz (Option.some.inj h).symm
    · cases h
  refine ⟨⟨fun b o h => (locked_some h).1, fun _ _ h _ => h, Same.refl _, fun _ h => .inl h, fun _ h => h, (fun z => nomatch z), rfl⟩, ?_, fun i d h => ?_, fun i h => ?_, fun i h => ?_, fun i b h => ?_, fun i j b c x h _ _ _ => ?_, fun i rows x cs h _ _ => ?_⟩
  · unfold L2.start
    rw [List.length_append, List.length_replicate]
    show 1 + (N.length - 1) = (List.replicate n Sl.no).length + 1
    rw [List.length_replicate]
    omega
  · cases i with
    | zero => cases h
    | succ i => exact absurd h (rep i _ (fun z => nomatch z))
  · cases i with
    | zero => cases h
    | succ i => exact absurd h (rep i _ (fun z => nomatch z))
  · cases i with
    | zero => rfl
    | succ i => exact absurd h (rep i _ (fun z => nomatch z))
  · cases i with
    | zero => cases h
    | succ i => exact absurd h (rep i _ (fun z => nomatch z))
  · cases i with
    | zero => cases h
    | succ i => exact absurd h (rep i _ (fun z => nomatch z))
  · cases i with
    | zero => cases h
    | succ i => exact absurd h (rep i _ (fun z => nomatch z))
/-- numbers = [] / for .. in script: .. / return numbers -/
theorem num_ok {st : Stmt} {N : List Str} {k : Nat} {t : Tg} {sb : Sm} (Fx : ∃ (f : Addr) (fd : FuncData), Fun K "_law_numbers" "_law_numbers" st f fd ∧ mg "_law_numbers" = some (.ref f) ∧ L2.Binds K fd ["script"] []) (S : FnScope N ["script"] (defScope st)) {n : Nat}
    (hd : ∀ (f : Addr) (cdv : Value) (A : Around) (outer : List PySem.Env) (s : Shared) (H : Hp) (E : XK) (ns : List Int), Room k (A.deeper (envOfC "_law_numbers" (defScope st) s.heap.objs.size f cdv)) →
      PSs (cxOf (L2.CX P w) P w K mg base N "_law_numbers" (defScope st) f cdv A outer s H E) (defBody st) (tSeq (tS cls (fun c d _ H => E c d H) (setOS 1 (lstO nilD))) (tSeq (tScF K cls (fun c d _ H => E c d H) 0 ns t sb) (tS cls (fun c d _ H => E c d H) (shutS 1 (retS (varD 1)))))))
    (hm : ∀ ns : List Int, ns.length ≤ 63 → ∃ (ms : List Int) (ρ' : Nv), Small ms ∧ forD t sb (ns.map PyData.int) (.sc :: .ow (.lst []) :: List.replicate (n - 1) .no) none = .nx ρ' none ∧ ρ'[1]? = some (.ow (.lst (ms.map PyData.int)))) (hn : N.length - 1 = n := by rfl) (h1 : 1 ≤ n := by decide) :
    ∃ (f : Addr) (fd : FuncData), mg "_law_numbers" = some (.ref f) ∧ PySem.W.keepIn K (.ref f) = true ∧ L2.Binds K fd ["script"] [] ∧ FnOk P w K mg base (L2.CX P w) (k + 1) f fd ["script"] (spNum K) := by
  obtain ⟨f, fd, F, hmg, hb⟩ := Fx
  refine ⟨f, fd, hmg, F.kp, hb, F.okX S (fun vs H Q E h => h.1) fun cdv A outer s H vs Q E hr h => ?_⟩
  obtain ⟨_, a, ns, rfl, hq, hl, ho, h⟩ := h
  refine ⟨_, hd f cdv A outer s H E ns hr, ⟨0, false, locked H, H, a, .non⟩, locked H, _, none, num_start hn, ?_⟩
  show ∀ σ' H' S', _
  intro σ1 H1 S1 I1 e1
  have er : (Sl.sc :: List.replicate n Sl.no).set 1 (.ow (.lst [])) = .sc :: .ow (.lst []) :: List.replicate (n - 1) .no := by
    obtain ⟨m, rfl⟩ : ∃ m, n = m + 1 := ⟨n - 1, by omega⟩
    rfl
  rw [er] at I1
  refine ⟨_, S1, _, none, I1, rfl, sq_locked ho hq, ?_⟩
  obtain ⟨ms, ρ', hs, hf, hρ⟩ := hm ns hl
  rw [hf]
  intro σ2 H2 S2 I2 e2
  refine ⟨_, S2, ρ', none, I2, ?_⟩
  have il : 1 < ρ'.length := (List.getElem?_eq_some_iff.mp hρ).1
  have hsh : shutS 1 (retS (varD 1)) ρ' none = .rt (.list (ms.map PyData.int)) none := by
    unfold shutS
    rw [hρ]
    show (retS (varD 1)) (ρ'.set 1 (.sh (.list (ms.map PyData.int)))) none = _
    unfold retS stE varD
    rw [List.getElem?_set_self il]
  rw [hsh]
  intro v H3 S3 F3 r3
  cases r3 with
  | @lst p xs ds hx qx =>
    have ex := qx.ints
    subst ex
    refine h p H3 ms (fun b o e => F3.keep b o e (fun z => nomatch z)) ?_ (F3.sub _ _ hx) hs
    rcases F3.new p (by rw [hx]; simp) with z | z
    · exfalso
      cases e : locked H p with
      | none => exact z e
      | some o =>
        obtain ⟨_, o', u, rfl⟩ := locked_some e
        rw [F3.base p _ e] at hx
        cases hx
    · exact z
/-! ### the law -/
def spLaw (K : PySem.W.Frag) : Sp := fun vs H Q _ => ∃ (a : Addr) (ns : List Int), vs = [.ref a] ∧ SqL K H a (ns.map V.int) ∧ ns.length ≤ 63 ∧ Only H ∧ ∀ H', Q (.bl true) H'
theorem law_start {H : Hp} {a p q : Addr} {ms : List Int} {N : List Str} {n : Nat} (hn : N.length - 2 = n) (hp : H p = some (.lst (ms.map V.int))) (hq : H q = none) :
    Good ⟨q, true, upd (fun _ => none) p (.lst (ms.map V.int)), upd H q (.lst [.ref p, .int 0]), 0, .ref p⟩ (some (.ref a) :: some (.ref q) :: List.replicate n none) (upd H q (.lst [.ref p, .int 0])) (upd (fun _ => none) p (.lst (ms.map V.int))) (.no :: .dr :: List.replicate n .no) (some (ms, 0)) := by
  have hpq : p ≠ q := ne_of_none hp hq
  have rep : ∀ (i : Nat) (z : Sl), z ≠ .no → (List.replicate n Sl.no)[i]? ≠ some z := fun i z hz h => by
    rw [List.getElem?_replicate] at h
    split at h
    · exact hz (Option.some.inj h).symm
    · cases h
  have only : ∀ (i : Nat) (z : Sl), z ≠ .no → z ≠ .dr → (Sl.no :: .dr :: List.replicate n .no)[i]? ≠ some z := fun i z h1 h2 h => by
    match i, h with
    | 0, h => exact h1 (Option.some.inj h).symm
    | 1, h => exact h2 (Option.some.inj h).symm
    | i + 2, h => exact rep i z h1 h
  refine ⟨⟨fun b o h => ?_, fun _ _ h _ => h, Same.refl _, fun _ h => .inl h, fun _ h => h, fun _ => ?_, ⟨rfl, upd_same, .lst upd_same (Rps.of_ints ms)⟩⟩, ?_, fun i d h => absurd h (only i _ (fun z => nomatch z) (fun z => nomatch z)), fun i h => ?_, fun i h => absurd h (only i _ (fun z => nomatch z) (fun z => nomatch z)), fun i b h => absurd h (only i _ (fun z => nomatch z) (fun z => nomatch z)), (fun i j b c x h _ _ _ => absurd h (only i _ (fun z => nomatch z) (fun z => nomatch z))), fun i rows x cs h _ _ => absurd h (only i _ (fun z => nomatch z) (fun z => nomatch z))⟩
  · by_cases hb : b = p
    · subst hb
      rw [upd_same] at h
      rw [upd_ne hpq, hp, ← h]
    · rw [upd_ne hb] at h
      cases h
  · exact upd_ne (Ne.symm hpq)
  · rw [List.length_cons, List.length_cons, List.length_cons, List.length_cons, List.length_replicate, List.length_replicate]
  · match i, h with
    | 0, h => cases h
    | 1, _ => exact ⟨rfl, rfl⟩
    | i + 2, h => exact absurd h (rep i _ (fun z => nomatch z))
/-- the law: draws = [_law_numbers(script), 0], then a body that hands back True -/
theorem law_ok {st : Stmt} {N : List Str} {k : Nat} {body : Sm} {f : Addr} {fd : FuncData} (F : Fun K "law" "law" st f fd) (S : FnScope N ["script"] (defScope st)) {n : Nat}
    (hd : ∀ (cdv : Value) (A : Around) (outer : List PySem.Env) (s : Shared) (H : Hp) (E : XK), Room k (A.deeper (envOfC "law" (defScope st) s.heap.objs.size f cdv)) →
      PSs (cxOf (L2.CX P w) P w K mg base N "law" (defScope st) f cdv A outer s H E) (defBody st) (tSeq (tAsg (tLst (tCons (tCallS (spNum K) (WE fun c d _ H => E c d H) (tCons (tVar 0) tNil)) (tCons (tC (.int 0)) tNil))) (gName 1)) (tS cls (fun c d _ H => E c d H) body)))
    (hm : ∀ ms : List Int, Small ms → ∃ g', body (.no :: .dr :: List.replicate n .no) (some (ms, 0)) = .rt (.bool true) g') (hn : N.length - 2 = n := by rfl) (h2 : 2 ≤ N.length := by decide) : FnOk P w K mg base (L2.CX P w) (k + 1) f fd ["script"] (spLaw K) := by
  refine F.okX S (fun vs H Q E h => ?_) fun cdv A outer s H vs Q E hr h => ?_
  · obtain ⟨a, ns, rfl, _⟩ := h
    rfl
  · obtain ⟨a, ns, rfl, hq, hl, ho, h⟩ := h
    refine ⟨_, hd cdv A outer s H E hr, ?_⟩
    have e0 : (L2.start N [V.ref a])[0]? = some (some (.ref a)) := rfl
    refine ⟨.ref a, e0, rfl, a, ns, rfl, hq, hl, ho, fun p H1 ms sm np hp hs => ?_⟩
    refine ⟨by show 2 ≤ sizeLine; rw [sizeLine_eq]; decide, fun q hq1 => ?_⟩
    obtain ⟨g', hb⟩ := hm ms hs
    have est : (L2.start N [V.ref a]).set 1 (some (.ref q)) = some (.ref a) :: some (.ref q) :: List.replicate n none := by
      unfold L2.start
      obtain ⟨m, hm'⟩ : ∃ m, N.length - [V.ref a].length = m + 1 := ⟨N.length - 2, by show N.length - 1 = _; omega⟩
      have : m = n := by
        have : N.length - 1 = m + 1 := hm'
        omega
      rw [hm', this]
      rfl
    show (tS cls _ body) _ ((L2.start N [V.ref a]).set 1 (some (.ref q))) _
    rw [est]
    refine ⟨_, _, _, _, law_start hn hp hq1, ?_⟩
    rw [hb]
    intro v H2 S2 F2 r2
    cases r2
    exact h H2
end
end DL

set_option Elab.async false
set_option linter.all false
set_option maxRecDepth 100000
set_option maxHeartbeats 400000
/-! plain facts about mirrors -/
namespace DL
open PySem
@[simp] theorem setS_ap (i : Nat) (f : Ex) (ρ : Nv) (g : G) : setS i f ρ g = match f ρ g with
  | .ok d g1 => .nx (ρ.set i (.sh d)) g1
  | .ex n g1 => .ex n ρ g1
  | .bad => .bad := rfl
@[simp] theorem asgS_ap (f : Ex) (t : Tg) (ρ : Nv) (g : G) : asgS f t ρ g = match f ρ g with
  | .ok d g1 => match t d ρ with
    | some ρ1 => .nx ρ1 g1
    | none => .bad
  | .ex n g1 => .ex n ρ g1
  | .bad => .bad := rfl
@[simp] theorem dropS_ap (f : Ex) (ρ : Nv) (g : G) : dropS f ρ g = match f ρ g with
  | .ok _ g1 => .nx ρ g1
  | .ex n g1 => .ex n ρ g1
  | .bad => .bad := rfl
@[simp] theorem retS_ap (f : Ex) (ρ : Nv) (g : G) : retS f ρ g = match f ρ g with
  | .ok d g1 => .rt d g1
  | .ex n g1 => .ex n ρ g1
  | .bad => .bad := rfl
@[simp] theorem drSetS_ap (i : Nat) (f : Ex) (ρ : Nv) (g : G) : drSetS i f ρ g = match f ρ g with
  | .ok d g1 => match ρ[i]?, g1, d with
    | some .dr, some (ns, _), .int j => .nx ρ (some (ns, j))
    | _, _, _ => .bad
  | .ex n g1 => .ex n ρ g1
  | .bad => .bad := rfl
/-- a loop by what holds behind each part of its items -/
theorem forD_all {α : Type} {t : Tg} {body : Sm} (enc : α → PyData) (R : List α → Nv → G → Prop) (xs : List α) (h : ∀ pre x post, xs = pre ++ x :: post → ∀ ρ g, R pre ρ g → ∃ ρ1 ρ2 g2, t (enc x) ρ = some ρ1 ∧ (body ρ1 g = .nx ρ2 g2 ∨ body ρ1 g = .ct ρ2 g2) ∧ R (pre ++ [x]) ρ2 g2) {ρ : Nv} {g : G} (h0 : R [] ρ g) :
    ∃ ρ' g', forD t body (xs.map enc) ρ g = .nx ρ' g' ∧ R xs ρ' g' := by
  have key : ∀ (post pre : List α) ρ g, xs = pre ++ post → R pre ρ g → ∃ ρ' g', forD t body (post.map enc) ρ g = .nx ρ' g' ∧ R xs ρ' g' := by
    intro post
    induction post with
    | nil =>
      intro pre ρ g e r
      rw [List.append_nil] at e
      subst e
      exact ⟨ρ, g, rfl, r⟩
    | cons x post ih =>
      intro pre ρ g e r
      obtain ⟨ρ1, ρ2, g2, h1, h2, h3⟩ := h pre x post e ρ g r
      obtain ⟨ρ', g', h4, h5⟩ := ih (pre ++ [x]) ρ2 g2 (by rw [e, List.append_assoc]; rfl) h3
      refine ⟨ρ', g', ?_, h5⟩
      rw [List.map_cons]
      unfold forD
      rw [h1]
      rcases h2 with h2 | h2
      · simp only [h2, h4]
      · simp only [h2, h4]
  exact key xs [] ρ g rfl h0
/-- a comprehension by what holds behind each part of its items -/
theorem compD_all {α : Type} {t : Tg} {cond : Te} {elt : Ex} (enc : α → PyData) (R : List α → List PyData → G → Prop) (xs : List α) (ρ : Nv)
    (h : ∀ pre x post, xs = pre ++ x :: post → ∀ ys g, R pre ys g → ∃ ρ1 g1, t (enc x) ρ = some ρ1 ∧ ((cond ρ1 g = .ok false g1 ∧ R (pre ++ [x]) ys g1) ∨ (cond ρ1 g = .ok true g1 ∧ ∃ y g2, elt ρ1 g1 = .ok y g2 ∧ R (pre ++ [x]) (ys ++ [y]) g2))) {g : G} (h0 : R [] [] g) :
    ∃ ys g', compD t cond elt (xs.map enc) ρ g = .ok ys g' ∧ R xs ys g' := by
  have key : ∀ (post pre : List α) ys g, xs = pre ++ post → R pre ys g → ∃ zs g', compD t cond elt (post.map enc) ρ g = .ok zs g' ∧ R xs (ys ++ zs) g' := by
    intro post
    induction post with
    | nil =>
      intro pre ys g e r
      rw [List.append_nil] at e
      subst e
      exact ⟨[], g, rfl, by rw [List.append_nil]; exact r⟩
    | cons x post ih =>
      intro pre ys g e r
      obtain ⟨ρ1, g1, h1, h2⟩ := h pre x post e ys g r
      rcases h2 with ⟨h2, h3⟩ | ⟨h2, y, g2, h3, h4⟩
      · obtain ⟨zs, g', h4, h5⟩ := ih (pre ++ [x]) ys g1 (by rw [e, List.append_assoc]; rfl) h3
        refine ⟨zs, g', ?_, h5⟩
        rw [List.map_cons]
        unfold compD
        rw [h1]
        simp only [h2, h4]
      · obtain ⟨zs, g', h5, h6⟩ := ih (pre ++ [x]) (ys ++ [y]) g2 (by rw [e, List.append_assoc]; rfl) h4
        refine ⟨y :: zs, g', ?_, by rw [List.append_assoc] at h6; exact h6⟩
        rw [List.map_cons]
        unfold compD
        rw [h1]
        simp only [h2, h3, h5]
        rfl
  obtain ⟨zs, g', h1, h2⟩ := key xs [] [] g rfl h0
  exact ⟨zs, g', h1, h2⟩
/-- a comprehension that draws nothing: filter and map -/
theorem compD_pure {α : Type} {t : Tg} {cond : Te} {elt : Ex} (enc : α → PyData) (c : α → Bool) (e : α → PyData) (xs : List α) (ρ : Nv) (g : G)
    (h : ∀ x ∈ xs, ∃ ρ1, t (enc x) ρ = some ρ1 ∧ cond ρ1 g = .ok (c x) g ∧ (c x = true → elt ρ1 g = .ok (e x) g)) : compD t cond elt (xs.map enc) ρ g = .ok ((xs.filter c).map e) g := by
  induction xs with
  | nil => rfl
  | cons x xs ih =>
    obtain ⟨ρ1, h1, h2, h3⟩ := h x List.mem_cons_self
    have ih' := ih fun y hy => h y (List.mem_cons_of_mem _ hy)
    rw [List.map_cons]
    unfold compD
    rw [h1]
    simp only
    rw [h2]
    cases hc : c x with
    | false =>
      simp only [ih']
      rw [List.filter_cons_of_neg (by rw [hc]; decide)]
    | true =>
      simp only [h3 hc, ih']
      rw [List.filter_cons_of_pos hc]
      rfl
theorem upFrom_zero (lo : Int) : upFrom lo 0 = [] := rfl
theorem upFrom_succ (lo : Int) (n : Nat) : upFrom lo (n + 1) = .int lo :: upFrom (lo + 1) n := by
  unfold upFrom
  rw [List.range_succ_eq_map, List.map_cons, List.map_map]
  congr 1
  · simp
  · apply List.map_congr_left
    intro k _
    show PyData.int (lo + ((k + 1 : Nat) : Int)) = PyData.int (lo + 1 + (k : Int))
    congr 1
    omega
theorem atI_at {α : Type} {xs : List α} {i : Int} {j : Nat} {v : α} (e : i = (j : Int)) (h : xs[j]? = some v) : L2.atI xs i = some v := by
  rw [e]
  exact L2.atI_nat h
theorem upFrom_map (lo : Int) (n : Nat) : upFrom lo n = (List.range n).map fun (k : Nat) => PyData.int (lo + (k : Int)) := rfl
end DL

set_option Elab.async false
set_option linter.all false
set_option maxRecDepth 100000
set_option maxHeartbeats 400000
/-! The data layer, part 7: peeks at things of one's own, items set, lists of lists, max and min. -/
namespace DL
open PySem PySem.Spec PyProof.Rows L2
theorem Rps.of_get {S : Hp} : ∀ {vs : List V} {ds : List PyData}, vs.length = ds.length → (∀ (k : Nat) (v : V) (d : PyData), vs[k]? = some v → ds[k]? = some d → Rp S v d) → Rps S vs ds
  | [], [], _, _ => .nil
  | [], _ :: _, h, _ => by cases h
  | _ :: _, [], h, _ => by cases h
  | v :: vs, d :: ds, h, k => .cons (k 0 v d rfl rfl) (Rps.of_get (Nat.succ.inj h) fun j x y h1 h2 => k (j + 1) x y (by simpa using h1) (by simpa using h2))
section
variable {B : Bs} {σ : L2.St} {H S : Hp} {ρ : Nv} {g : G}
/-- a list of lists of one's own becomes a datum -/
theorem Good.shutM (I : Good B σ H S ρ g) {i : Nat} {rows : List (List PyData)} (hi : ρ[i]? = some (.ow (.mat rows))) : ∃ S', Same S S' ∧ Good B σ H S' (ρ.set i (.sh (.list (rows.map PyData.list)))) g := by
  obtain ⟨a, cs, h1, h5, hl, h2, h3, h4, R⟩ := I.rows hi
  obtain ⟨_, A1, A2⟩ := I.mx i rows a cs hi h1 h5
  have hlt : i < ρ.length := (List.getElem?_eq_some_iff.mp hi).1
  have key : ∀ (j : Nat) (z : Sl), (ρ.set i (.sh (.list (rows.map PyData.list))))[j]? = some z → (j = i ∧ z = .sh (.list (rows.map PyData.list))) ∨ (j ≠ i ∧ ρ[j]? = some z) := fun j z h => by
    by_cases hj : j = i
    · subst hj
      rw [List.getElem?_set_self hlt] at h
      exact .inl ⟨rfl, (Option.some.inj h).symm⟩
    · rw [List.getElem?_set_ne (Ne.symm hj)] at h
      exact .inr ⟨hj, h⟩
  let S' : Hp := fun x => if x = a ∨ x ∈ cs then H x else S x
  have inS : ∀ x, (x = a ∨ x ∈ cs) → S' x = H x := fun x h => if_pos h
  have ouS : ∀ x, ¬ (x = a ∨ x ∈ cs) → S' x = S x := fun x h => if_neg h
  have mem : ∀ x, (x = a ∨ x ∈ cs) → S x = none ∧ (B.live = true → x ≠ B.A) ∧ B.H x = none := fun x h => by
    rcases h with rfl | h
    · exact ⟨h2, h3, h4⟩
    · obtain ⟨k1, k2, k3, _⟩ := R.row hl h
      exact ⟨k1, k2, k3⟩
  have sm : Same S S' := fun c u q => by
    rw [ouS c fun z => by rw [(mem c z).1] at q; cases q]
    exact q
  refine ⟨S', sm, ⟨fun c u q => ?_, I.keep, I.base.trans sm, fun c q => ?_, I.there, fun hv => ?_, I.dr.mono sm fun _ => rfl⟩, by rw [List.length_set]; exact I.len, fun j d h => ?_, fun j h => ?_, fun j h => ?_, fun j c h => ?_, fun j l c d x k1 k2 k3 k4 => ?_, I.mxMove sm (fun j c h => ?_) (fun j rows h => ?_) (fun _ _ _ _ _ => rfl) fun j rows' x cs' _ h h' h2' c hc => ⟨rfl, ?_⟩⟩
  · by_cases hc : c = a ∨ c ∈ cs
    · rw [inS c hc] at q; exact q
    · rw [ouS c hc] at q; exact I.sub _ _ q
  · by_cases hc : c = a ∨ c ∈ cs
    · exact .inr (mem c hc).2.2
    · rw [ouS c hc] at q; exact I.new c q
  · rw [ouS B.A fun z => (mem B.A z).2.1 hv rfl]; exact I.no hv
  · rcases key j _ h with ⟨rfl, e⟩ | ⟨_, h⟩
    · cases e
      refine ⟨.ref a, h1, .lst (by rw [inS a (.inl rfl)]; exact h5) (Rps.of_get (by rw [List.length_map, List.length_map]; exact hl) fun k v d e1 e2 => ?_)⟩
      rw [List.getElem?_map] at e1 e2
      obtain ⟨c, hc, rfl⟩ := Option.map_eq_some_iff.mp e1
      obtain ⟨row, hr, rfl⟩ := Option.map_eq_some_iff.mp e2
      obtain ⟨_, _, _, vs, q1, q2⟩ := R.at_ k c row hc hr
      exact .lst (by rw [inS c (.inr (List.mem_of_getElem? hc))]; exact q1) (q2.mono sm)
    · obtain ⟨v, q1, q2⟩ := I.sh j d h
      exact ⟨v, q1, q2.mono sm⟩
  · rcases key j _ h with ⟨rfl, e⟩ | ⟨_, h⟩
    · cases e
    · exact I.dw j h
  · rcases key j _ h with ⟨rfl, e⟩ | ⟨_, h⟩
    · cases e
    · exact I.sw j h
  · rcases key j _ h with ⟨rfl, e⟩ | ⟨hj, h⟩
    · cases e
    · obtain ⟨x, u, q1, q2, q3, q4, q5, q6⟩ := I.ow j c h
      have hx : ¬ (x = a ∨ x ∈ cs) := fun z => by
        rcases z with z | z
        · exact hj (I.ap j i c _ a h hi (by rw [q1, z]) h1)
        · exact A1 j c x h q1 z
      exact ⟨x, u, q1, by rw [ouS x hx]; exact q2, q3, q4, q5, q6.mono sm⟩
  · rcases key j _ k1 with ⟨rfl, e⟩ | ⟨_, k1⟩
    · cases e
    · rcases key l _ k2 with ⟨rfl, e⟩ | ⟨_, k2⟩
      · cases e
      · exact I.ap j l c d x k1 k2 k3 k4
  · rcases key j _ h with ⟨rfl, e⟩ | ⟨_, h⟩
    · cases e
    · exact ⟨⟨c, h⟩, rfl⟩
  · rcases key j _ h with ⟨rfl, e⟩ | ⟨_, h⟩
    · cases e
    · exact h
  · have hji : j ≠ i := fun z => by subst z; rename_i hq; rcases key j _ hq with ⟨_, e⟩ | ⟨q, _⟩; cases e; exact q rfl
    obtain ⟨R', A1', A2'⟩ := I.mx j rows' x cs' h h' h2'
    rw [ouS c fun z => by
      rcases z with z | z
      · exact A1' i _ a hi h1 (by rw [← z]; exact hc)
      · exact A2 j rows' x cs' hji h h' h2' c z hc]
    exact (R'.row (I.rowsAt h h' h2') hc).1
/-- what a thing of one's own is as a datum -/
@[simp] def obD : Ob → Option PyData
  | .lst ds => some (.list ds)
  | .mat rows => some (.list (rows.map PyData.list))
  | _ => none
theorem Good.shutB (I : Good B σ H S ρ g) {i : Nat} {b : Ob} {d : PyData} (hi : ρ[i]? = some (.ow b)) (hd : obD b = some d) : ∃ S', Same S S' ∧ Good B σ H S' (ρ.set i (.sh d)) g := by
  cases b with
  | lst ds => cases hd; exact I.shut hi
  | mat rows => cases hd; exact I.shutM hi
  | dk _ => cases hd
  | dt _ => cases hd
end
@[simp] def scal : PyData → Bool
  | .none => true
  | .bool _ => true
  | .int _ => true
  | .str _ => true
  | _ => false
theorem Rp.scal {S S' : Hp} {v : V} {d : PyData} (r : Rp S v d) (h : scal d = true) : Rp S' v d := by
  cases r with
  | non => exact .non
  | bl b => exact .bl b
  | int i => exact .int i
  | str x => exact .str x
  | lst _ _ => cases h
  | tup _ _ => cases h
theorem Rps.scal {S S' : Hp} : ∀ {ds : List PyData} {vs : List V}, Rps S vs ds → ds.all DL.scal = true → Rps S' vs ds
  | _, _, .nil, _ => .nil
  | _, _, .cons r t, h => by
    rw [List.all_cons, Bool.and_eq_true] at h
    exact .cons (r.scal h.1) (Rps.scal t h.2)
section
variable {X : Cx} {cls : Nat → Value} {W : WX} {pos : Pos} {a b c e : Expr} {fa fb fc : Ex} {D : Ends} {σ : L2.St} {H : Hp} {st : Stmt} {rest : List Stmt}
/-- a thing of one's own is looked at as if it were a datum; what comes of it is no object -/
def peekD (i : Nat) (f : Ex) : Ex := fun ρ g => match ρ[i]? with
  | some (.ow b) => (match obD b with
    | some d => (match f (ρ.set i (.sh d)) g with
      | .ok x g1 => if scal x = true then .ok x g1 else .bad
      | _ => .bad)
    | none => .bad)
  | some (.sh _) => f ρ g
  | _ => .bad
def peekT (i : Nat) (f : Te) : Te := fun ρ g => match ρ[i]? with
  | some (.ow b) => (match obD b with
    | some d => (match f (ρ.set i (.sh d)) g with
      | .ok x g1 => .ok x g1
      | _ => .bad)
    | none => .bad)
  | some (.sh _) => f ρ g
  | _ => .bad
def peekO (i : Nat) (f : Ow) : Ow := fun ρ g => match ρ[i]? with
  | some (.ow b) => (match obD b with
    | some d => (match f (ρ.set i (.sh d)) g with
      | .ok (.lst xs) g1 => if xs.all scal = true then .ok (.lst xs) g1 else .bad
      | _ => .bad)
    | none => .bad)
  | some (.sh _) => f ρ g
  | _ => .bad
/-- back from a look -/
theorem Good.unpeek {B : Bs} {σ : L2.St} {H S S' H1 S1 : Hp} {ρ ρ' : Nv} {g g1 : G} (I : Good B σ H S ρ g) (sm : Same S S') (I1 : Good B σ H1 S1 ρ' g1) (e : Gr B H S' H1 S1) : Good B σ H1 S ρ g1 ∧ Gr B H S H1 S := by
  have gr : Gr B H S H1 S := ⟨e.keep, Same.refl _, fun _ h => .inl h, e.there⟩
  refine ⟨I.grow gr ((sm.trans e.base).trans I1.sub) ?_, gr⟩
  have d1 : DrAt B H1 S1 g1 := I1.dr
  have d0 : DrAt B H S g := I.dr
  cases g1 with
  | none => exact d1
  | some y =>
    obtain ⟨ns1, k1⟩ := y
    obtain ⟨hl, h1, h2⟩ := d1
    cases g with
    | none =>
      have hn : B.live = false := d0
      rw [hn] at hl; cases hl
    | some z =>
      obtain ⟨ns, k⟩ := z
      obtain ⟨_, _, h3⟩ := d0
      have q := (h3.mono (sm.trans e.base)).one h2
      rw [← q] at h2
      refine ⟨hl, h1, ?_⟩
      rw [← q]
      exact h3
theorem peekE_of {i : Nat} {f : Ex} {Q : VK} (h : tE cls W (peekD i f) σ H Q) : tE cls W f σ H Q := by
  obtain ⟨B, S, ρ, g, I, h⟩ := h
  unfold peekD at h
  split at h
  · rename_i b hi
    split at h
    · rename_i d hd
      obtain ⟨S', sm, I'⟩ := I.shutB hi hd
      refine ⟨B, S', _, _, I', ?_⟩
      cases ef : f (ρ.set i (.sh d)) g with
      | bad => rw [ef] at h; exact h
      | ex n g1 => rw [ef] at h; exact False.elim h
      | ok x g1 =>
        rw [ef] at h
        simp only at h
        by_cases hx : scal x = true
        · rw [if_pos hx] at h
          intro v H1 S1 I1 e1 r
          obtain ⟨J, gr⟩ := I.unpeek sm I1 e1
          exact h v H1 S J gr (r.scal hx)
        · rw [if_neg hx] at h; exact False.elim h
    · exact False.elim h
  · exact ⟨B, S, ρ, _, I, h⟩
  · exact False.elim h
theorem peekT_of {i : Nat} {f : Te} {Q : Bool → Hp → Prop} (h : tT cls W (peekT i f) σ H Q) : tT cls W f σ H Q := by
  obtain ⟨B, S, ρ, g, I, h⟩ := h
  unfold peekT at h
  split at h
  · rename_i b hi
    split at h
    · rename_i d hd
      obtain ⟨S', sm, I'⟩ := I.shutB hi hd
      refine ⟨B, S', _, _, I', ?_⟩
      cases ef : f (ρ.set i (.sh d)) g with
      | bad => rw [ef] at h; exact h
      | ex n g1 => rw [ef] at h; exact False.elim h
      | ok x g1 =>
        rw [ef] at h
        intro H1 S1 I1 e1
        obtain ⟨J, gr⟩ := I.unpeek sm I1 e1
        exact h H1 S J gr
    · exact False.elim h
  · exact ⟨B, S, ρ, _, I, h⟩
  · exact False.elim h
theorem peekO_of {i : Nat} {f : Ow} {Q : VK} (h : tO cls W (peekO i f) σ H Q) : tO cls W f σ H Q := by
  obtain ⟨B, S, ρ, g, I, h⟩ := h
  unfold peekO at h
  split at h
  · rename_i b hi
    split at h
    · rename_i d hd
      obtain ⟨S', sm, I'⟩ := I.shutB hi hd
      refine ⟨B, S', _, _, I', ?_⟩
      cases ef : f (ρ.set i (.sh d)) g with
      | bad => rw [ef] at h; exact h
      | ex n g1 => rw [ef] at h; exact False.elim h
      | ok x g1 =>
        rw [ef] at h
        cases x with
        | lst xs =>
          simp only at h
          by_cases hx : xs.all scal = true
          · rw [if_pos hx] at h
            intro l o H1 S1 I1 e1 n1 n2 ho r
            obtain ⟨J, gr⟩ := I.unpeek sm I1 e1
            refine h l o H1 S J gr ?_ n2 ho ?_
            · cases q : S l with
              | none => rfl
              | some u => rw [e1.base _ _ (sm _ _ q)] at n1; cases n1
            · cases r with
              | lst r => exact .lst (r.scal hx)
          · rw [if_neg hx] at h; exact False.elim h
        | _ => exact False.elim h
    · exact False.elim h
  · exact ⟨B, S, ρ, _, I, h⟩
  · exact False.elim h
theorem pd_peek (i : Nat) (h : PE X e (tE cls W fa)) : PE X e (tE cls W (peekD i fa)) := PE_imp h fun _ _ _ q => peekE_of q
theorem ptd_peek (i : Nat) {f : Te} (h : PT X e (tT cls W f)) : PT X e (tT cls W (peekT i f)) := PT_imp h fun _ _ _ q => peekT_of q
theorem po_peek (i : Nat) {f : Ow} (h : PE X e (tO cls W f)) : PE X e (tO cls W (peekO i f)) := PE_imp h fun _ _ _ q => peekO_of q
theorem psd_setLcOp (i k : Nat) {y : Str} {py : Pos} {elt tg iter : Expr} {ifs : List Expr} {scope : Scope} {own : List (Str × Nat)} {lpos : Pos} {ts : List Nat} {fi : Ar} {ft : Tg} {fc : Te} {fe : Ex} (hc : X.calm = true) (hN : X.N.Nodup)
    (hsw : swapsWith (.ListComp elt [⟨tg, iter, ifs, 0⟩] scope lpos) (some (.Name y py)) pos.line X.env = pure true) (hi : PI X tg iter (tI cls W fi)) (ok : BlkOk X.N X.env.scope scope own)
    (hg : ∀ (s : Shared) (H : Hp) (C : Addr) (cl : List (Str × Addr)) (fp : List Addr), PG (X.blk s H scope (compEnvC scope cl C X.env) fp) tg (tG ts ft)) (ht : ∀ (s : Shared) (H : Hp) (C : Addr) (cl : List (Str × Addr)) (fp : List Addr), PTs (X.blk s H scope (compEnvC scope cl C X.env) fp) ifs (tT cls W0 fc))
    (he : ∀ (s : Shared) (H : Hp) (C : Addr) (cl : List (Str × Addr)) (fp : List Addr), PE (X.blk s H scope (compEnvC scope cl C X.env) fp) elt (tE cls W0 fe)) (hts : ∀ i ∈ ts, i ∈ own.map (·.2) := by decide) (hy : X.N[i]? = some y := by rfl) (hyl : X.env.scope.names.lookup y = some .local := by rfl)
    (hs : ∀ x, foldedSetIterable iter X.env x = pure x := by intro _; rfl) :
    PS X (.Assign [.Name y py] (.ListComp elt [⟨tg, iter, ifs, 0⟩] scope lpos) pos) (tS cls W (setOS i (peekO k (lcO fi (own.map (·.2)) ft fc fe)))) :=
  PS_imp (ps_setLc hc hN hy hyl hsw hi ok hg ht he hs) fun D σ H h => lc_of hts σ H _ (peekO_of (setOS_of h))
/-- a thing of one's own, list or list of lists, is read as a datum from here on -/
@[simp] def shutXS (i : Nat) (s : Sm) : Sm := fun ρ g => match ρ[i]? with
  | some (.ow b) => (match obD b with
    | some d => s (ρ.set i (.sh d)) g
    | none => .bad)
  | _ => .bad
theorem pssd_shutX (i : Nat) {s : Sm} (h : PSs X rest (tS cls W s)) : PSs X rest (tS cls W (shutXS i s)) := PSs_imp h fun D σ H ⟨B, S, ρ, g, I, h⟩ => by
  unfold shutXS at h
  split at h
  · rename_i b hi
    split at h
    · rename_i d hd
      obtain ⟨S', sm, I'⟩ := I.shutB hi hd
      exact ⟨B, S', _, g, I', SO_gr sm h⟩
    · exact False.elim h
  · exact False.elim h
end
end DL

set_option Elab.async false
set_option linter.all false
set_option maxRecDepth 100000
set_option maxHeartbeats 400000
/-! The data layer, part 8: max, min, abs, is of truth values, index, items set. -/
namespace DL
open PySem PySem.Spec PyProof.Rows L2
/-- the greatest, the least of numbers -/
def maxI : List Int → Option Int
  | [] => none
  | n :: r => some (match maxI r with | none => n | some m => if n ≤ m then m else n)
def minI : List Int → Option Int
  | [] => none
  | n :: r => some (match minI r with | none => n | some m => if n ≤ m then n else m)
theorem maxI_spec : ∀ {ns : List Int} {m : Int}, maxI ns = some m → m ∈ ns ∧ ∀ y ∈ ns, y ≤ m
  | [], m, h => by cases h
  | n :: r, m, h => by
    unfold maxI at h
    cases e : maxI r with
    | none =>
      rw [e] at h
      simp only [Option.some.injEq] at h
      subst h
      cases r with
      | nil => exact ⟨by simp, fun y hy => by simp at hy; omega⟩
      | cons a b => unfold maxI at e; cases e
    | some k =>
      rw [e] at h
      obtain ⟨h1, h2⟩ := maxI_spec e
      simp only [Option.some.injEq] at h
      by_cases hk : n ≤ k
      · rw [if_pos hk] at h
        subst h
        exact ⟨List.mem_cons_of_mem _ h1, fun y hy => by
          rcases List.mem_cons.mp hy with rfl | hy
          · exact hk
          · exact h2 y hy⟩
      · rw [if_neg hk] at h
        subst h
        exact ⟨List.mem_cons_self, fun y hy => by
          rcases List.mem_cons.mp hy with rfl | hy
          · exact Int.le_refl _
          · have := h2 y hy; omega⟩
theorem minI_spec : ∀ {ns : List Int} {m : Int}, minI ns = some m → m ∈ ns ∧ ∀ y ∈ ns, m ≤ y
  | [], m, h => by cases h
  | n :: r, m, h => by
    unfold minI at h
    cases e : minI r with
    | none =>
      rw [e] at h
      simp only [Option.some.injEq] at h
      subst h
      cases r with
      | nil => exact ⟨by simp, fun y hy => by simp at hy; omega⟩
      | cons a b => unfold minI at e; cases e
    | some k =>
      rw [e] at h
      obtain ⟨h1, h2⟩ := minI_spec e
      simp only [Option.some.injEq] at h
      by_cases hk : n ≤ k
      · rw [if_pos hk] at h
        subst h
        exact ⟨List.mem_cons_self, fun y hy => by
          rcases List.mem_cons.mp hy with rfl | hy
          · exact Int.le_refl _
          · have := h2 y hy; omega⟩
      · rw [if_neg hk] at h
        subst h
        exact ⟨List.mem_cons_of_mem _ h1, fun y hy => by
          rcases List.mem_cons.mp hy with rfl | hy
          · omega
          · exact h2 y hy⟩
theorem maxI_some {ns : List Int} (h : ns ≠ []) : ∃ m, maxI ns = some m := by
  cases ns with
  | nil => exact absurd rfl h
  | cons n r => exact ⟨_, rfl⟩
theorem minI_some {ns : List Int} (h : ns ≠ []) : ∃ m, minI ns = some m := by
  cases ns with
  | nil => exact absurd rfl h
  | cons n r => exact ⟨_, rfl⟩
theorem maxI_is {ns : List Int} {m : Int} (h1 : m ∈ ns) (h2 : ∀ y ∈ ns, y ≤ m) : maxI ns = some m := by
  obtain ⟨k, hk⟩ := maxI_some (ns := ns) (fun z => by rw [z] at h1; cases h1)
  obtain ⟨k1, k2⟩ := maxI_spec hk
  have := h2 k k1
  have := k2 m h1
  rw [hk]; congr 1; omega
theorem minI_is {ns : List Int} {m : Int} (h1 : m ∈ ns) (h2 : ∀ y ∈ ns, m ≤ y) : minI ns = some m := by
  obtain ⟨k, hk⟩ := minI_some (ns := ns) (fun z => by rw [z] at h1; cases h1)
  obtain ⟨k1, k2⟩ := minI_spec hk
  have := h2 k k1
  have := k2 m h1
  rw [hk]; congr 1; omega
def maxD : PyData → Option PyData
  | .list ds => (intsD ds).bind fun ns => (maxI ns).map PyData.int
  | _ => none
def minD : PyData → Option PyData
  | .list ds => (intsD ds).bind fun ns => (minI ns).map PyData.int
  | _ => none
@[simp] def max2D : PyData → PyData → Option PyData
  | .int i, .int j => some (.int (if j > i then j else i))
  | _, _ => none
@[simp] def min2D : PyData → PyData → Option PyData
  | .int i, .int j => some (.int (if j < i then j else i))
  | _, _ => none
@[simp] def absD : PyData → Option PyData
  | .int i => some (.int (if i < 0 then -i else i))
  | _ => none
@[simp] def isBD : PyData → PyData → Option PyData
  | .bool a, .bool b => some (.bool (decide (a = b)))
  | _, _ => none
@[simp] def notBD : PyData → PyData → Option PyData
  | .bool a, .bool b => some (.bool (!decide (a = b)))
  | _, _ => none
section
variable {X : Cx} {cls : Nat → Value} {W : WX} {pos : Pos} {a b c e : Expr} {fa fb fc : Ex} {D : Ends} {σ : L2.St} {H : Hp} {st : Stmt} {rest : List Stmt} {k : Nat}
theorem sp_max {K : PySem.W.Frag} : Spec1c (rMax K) maxD := fun B σ H S ρ g x d v Q e I r k => by
  cases r with
  | @lst a xs ds h q =>
    have e : ((intsD ds).bind fun ns => (maxI ns).map PyData.int) = some d := e
    cases hi : intsD ds with
    | none => rw [hi] at e; cases e
    | some ns =>
      rw [hi] at e
      simp only [Option.bind_some] at e
      obtain ⟨m, hm, rfl⟩ := Option.map_eq_some_iff.mp e
      rw [intsD_eq hi] at q
      have ex := q.ints
      subst ex
      obtain ⟨h1, h2⟩ := maxI_spec hm
      refine ⟨a, ns, rfl, .of (I.sub _ _ h), List.length_pos_of_mem h1, fun m' k1 k2 => ?_⟩
      have e1 := k2 m h1
      have e2 := h2 m' k1
      rw [show m' = m by omega]
      exact k _ H S I .refl (.int _)
  | _ => cases e
theorem sp_min {K : PySem.W.Frag} : Spec1c (rMin K) minD := fun B σ H S ρ g x d v Q e I r k => by
  cases r with
  | @lst a xs ds h q =>
    have e : ((intsD ds).bind fun ns => (minI ns).map PyData.int) = some d := e
    cases hi : intsD ds with
    | none => rw [hi] at e; cases e
    | some ns =>
      rw [hi] at e
      simp only [Option.bind_some] at e
      obtain ⟨m, hm, rfl⟩ := Option.map_eq_some_iff.mp e
      rw [intsD_eq hi] at q
      have ex := q.ints
      subst ex
      obtain ⟨h1, h2⟩ := minI_spec hm
      refine ⟨a, ns, rfl, .of (I.sub _ _ h), List.length_pos_of_mem h1, fun m' k1 k2 => ?_⟩
      have e1 := k2 m h1
      have e2 := h2 m' k1
      rw [show m' = m by omega]
      exact k _ H S I .refl (.int _)
  | _ => cases e
theorem pd_max1 {p : Pos} (hc : X.calm = true) (hm : X.mg "max" = none) (ha : PE X a (tE cls W fa)) (hg : Gl X "max" := by rfl) (hs : starEach [a] X.env = (false, eval a X.env) :: starEach [] X.env := by rfl) : PE X (.Call (.Name "max" p) [a] [] pos) (tE cls W (unD maxD fa)) :=
  pd_call1B (cr_max hc) sp_max hm boot_max ha hg (by decide) (by decide) hs
theorem pd_min1 {p : Pos} (hc : X.calm = true) (hm : X.mg "min" = none) (ha : PE X a (tE cls W fa)) (hg : Gl X "min" := by rfl) (hs : starEach [a] X.env = (false, eval a X.env) :: starEach [] X.env := by rfl) : PE X (.Call (.Name "min" p) [a] [] pos) (tE cls W (unD minD fa)) :=
  pd_call1B (cr_min hc) sp_min hm boot_min ha hg (by decide) (by decide) hs
theorem boot_abs : bootBuiltins "abs" = some (.builtin "abs") := by decide +kernel
theorem pd_abs {p : Pos} (hm : X.mg "abs" = none) (ha : PE X a (tE cls W fa)) (hg : Gl X "abs" := by rfl) (hs : starEach [a] X.env = (false, eval a X.env) :: starEach [] X.env := by rfl) : PE X (.Call (.Name "abs" p) [a] [] pos) (tE cls W (unD absD fa)) :=
  pd_call1B call_abs (fun B σ H S ρ g x d v Q e I r k => by
    cases r with
    | int i => cases e; exact ⟨i, rfl, k _ H S I .refl (.int _)⟩
    | _ => cases e) hm boot_abs ha hg (by decide) (by decide) hs
/-- a built-in of two data -/
theorem op2_of {r : List V → Hp → VK → Prop} {op : PyData → PyData → Option PyData} (sp : Spec2 (fun x y H Q => r [x, y] H Q) op) (σ : L2.St) (H : Hp) (Q : VK) (h : tE cls W (opD op fa fb) σ H Q) : tCB r (tCons (tE cls W fa) (tCons (tE cls W fb) tNil)) σ H Q :=
  op_of sp σ H Q h
theorem pd_call2B {x : Str} {p : Pos} {id : String} {r : List V → Hp → VK → Prop} {op : PyData → PyData → Option PyData} (hc : CallR X (.builtin id) r) (sp : Spec2 (fun x y H Q => r [x, y] H Q) op) (hm : X.mg x = none) (hv : bootBuiltins x = some (.builtin id)) (ha : PE X a (tE cls W fa)) (hb : PE X b (tE cls W fb)) (hg : Gl X x := by rfl)
    (hn : x ≠ "__name__" := by decide) (hd : (x == ("__debug__" : Str)) = false := by decide) (hs : starEach [a, b] X.env = (false, eval a X.env) :: starEach [b] X.env := by rfl) (hs2 : starEach [b] X.env = (false, eval b X.env) :: starEach [] X.env := by rfl) (hpl : (backTo pos (starEach [b] X.env)).any (·.1) = false := by rfl) :
    PE X (.Call (.Name x p) [a, b] [] pos) (tE cls W (opD op fa fb)) := PE_imp (pe_callB hc hg hm hv (pa_cons ha (pa_cons hb pa_nil hs2) hs) hn hd hs hpl) (op2_of sp)
theorem pd_max2 {p : Pos} (hc : X.calm = true) (hm : X.mg "max" = none) (ha : PE X a (tE cls W fa)) (hb : PE X b (tE cls W fb)) (hg : Gl X "max" := by rfl) (hs : starEach [a, b] X.env = (false, eval a X.env) :: starEach [b] X.env := by rfl) (hs2 : starEach [b] X.env = (false, eval b X.env) :: starEach [] X.env := by rfl) (hpl : (backTo pos (starEach [b] X.env)).any (·.1) = false := by rfl) :
    PE X (.Call (.Name "max" p) [a, b] [] pos) (tE cls W (opD max2D fa fb)) :=
  pd_call2B (call_max2 hc) (fun B σ H S ρ g x y d v u Q e I rx ry k => by
    cases rx with
    | int i => cases ry with
      | int j => cases e; exact ⟨i, j, rfl, k _ H S I .refl (.int _)⟩
      | _ => cases e
    | _ => cases e) hm boot_max ha hb hg (by decide) (by decide) hs hs2 hpl
theorem pd_min2 {p : Pos} (hc : X.calm = true) (hm : X.mg "min" = none) (ha : PE X a (tE cls W fa)) (hb : PE X b (tE cls W fb)) (hg : Gl X "min" := by rfl) (hs : starEach [a, b] X.env = (false, eval a X.env) :: starEach [b] X.env := by rfl) (hs2 : starEach [b] X.env = (false, eval b X.env) :: starEach [] X.env := by rfl) (hpl : (backTo pos (starEach [b] X.env)).any (·.1) = false := by rfl) :
    PE X (.Call (.Name "min" p) [a, b] [] pos) (tE cls W (opD min2D fa fb)) :=
  pd_call2B (call_min2 hc) (fun B σ H S ρ g x y d v u Q e I rx ry k => by
    cases rx with
    | int i => cases ry with
      | int j => cases e; exact ⟨i, j, rfl, k _ H S I .refl (.int _)⟩
      | _ => cases e
    | _ => cases e) hm boot_min ha hb hg (by decide) (by decide) hs hs2 hpl
theorem c_isB : Cmp X .Is isBD := ⟨_, op_isBl, fun B σ H S ρ g x y d v u Q e I rx ry k => by
  cases rx with
  | bl i => cases ry with
    | bl j => cases e; exact ⟨i, j, rfl, rfl, k _ H S I .refl (.bl _)⟩
    | _ => cases e
  | _ => cases e⟩
theorem c_notB : Cmp X .IsNot notBD := ⟨_, op_notBl, fun B σ H S ρ g x y d v u Q e I rx ry k => by
  cases rx with
  | bl i => cases ry with
    | bl j => cases e; exact ⟨i, j, rfl, rfl, k _ H S I .refl (.bl _)⟩
    | _ => cases e
  | _ => cases e⟩
/-! ### an item of a list of one's own is set -/
def setIxS (i : Nat) (fk fv : Ex) : Sm := stE fv fun d ρ g => match fk ρ g with
  | .ok (.int k) g2 => (match ρ[i]? with
    | some (.ow (.lst ds)) => (match L2.ixN ds.length k with
      | some j => .nx (ρ.set i (.ow (.lst (ds.set j d)))) g2
      | none => .bad)
    | _ => .bad)
  | _ => .bad
theorem psd_setIx (i : Nat) {x : Str} {p pos' : Pos} (hk : PE X b (tE cls W fb)) (ha : PE X a (tE cls W fa)) (hN : X.N[i]? = some x := by rfl) (hv : Vis X.env.scope x := by first | exact Or.inl rfl | exact Or.inr (Or.inl rfl) | exact Or.inr (Or.inr rfl)) (hd : (x == ("__debug__" : Str)) = false := by decide) (hcd : (x == ("__classdict__" : Str)) = false := by decide)
    (h0 : ∀ v, assign (.Subscript (.Name x p) b pos') X.env v = (do
      let ov ← holding [v] (eval (.Name x p) X.env)
      let iv ← holding [v, ov] (eval b X.env)
      standAt pos'
      holding [v, ov, iv] (setItem ov iv v)
      release [v, ov, iv] []) := by intro _; rfl)
    (hs : swapsWithSole [.Subscript (.Name x p) b pos'] a pos.line X.env = pure false := by rfl) (hw : swappedStores [.Subscript (.Name x p) b pos'] a X.env = pure none := by rfl)
    (h1 : (assignEach [.Subscript (.Name x p) b pos'] X.env).map (·.2) = [assign (.Subscript (.Name x p) b pos') X.env] := by rfl) :
    PS X (.Assign [.Subscript (.Name x p) b pos'] a pos) (tS cls W (setIxS i fb fa)) :=
  PS_imp (ps_asg ha (pg_sub (pe_var hN hv hd hcd) hk set_list h0) hs hw h1) fun D σ H h => st_of h fun B S ρ g d v H1 I r q => by
    cases hi : ρ[i]? with
    | none => rw [hi] at q; cases ek : fb ρ g with
      | ok z g2 => rw [ek] at q; cases z <;> exact False.elim q
      | ex n g2 => rw [ek] at q; exact False.elim q
      | bad => rw [ek] at q; exact False.elim q
    | some z =>
      rw [hi] at q
      cases z with
      | ow o =>
        cases o with
        | lst ds =>
          obtain ⟨l, o, h1, h2, h3, h4, h5, h6⟩ := I.ow i _ hi
          cases h6 with
          | @lst _ vs rv =>
            refine ⟨.ref l, h1, B, S, ρ, g, I, ?_⟩
            cases ek : fb ρ g with
            | bad => rw [ek] at q; exact False.elim q
            | ex n g2 => rw [ek] at q; exact False.elim q
            | ok y g2 =>
              rw [ek] at q
              intro iv H2 S2 I2 e2 r2
              cases r2 with
              | int m =>
                simp only at q
                cases ej : L2.ixN ds.length m with
                | none => rw [ej] at q; exact False.elim q
                | some j =>
                  rw [ej] at q
                  have h5' := e2.keep l _ h5 h3
                  refine ⟨l, vs, m, j, rfl, rfl, h5', by rw [rv.length]; exact ej, ?_⟩
                  exact q _ _ _ (I2.mutO hi h1 (.lst ((rv.mono e2.base).set j (r.mono e2.base))) fun _ z => nomatch z) e2.base
              | _ => exact False.elim q
        | _ => cases ek : fb ρ g with
          | ok z g2 => rw [ek] at q; cases z <;> exact False.elim q
          | ex n g2 => rw [ek] at q; exact False.elim q
          | bad => rw [ek] at q; exact False.elim q
      | _ => cases ek : fb ρ g with
        | ok z g2 => rw [ek] at q; cases z <;> exact False.elim q
        | ex n g2 => rw [ek] at q; exact False.elim q
        | bad => rw [ek] at q; exact False.elim q
end
end DL

set_option Elab.async false
set_option linter.all false
set_option maxRecDepth 100000
set_option maxHeartbeats 400000
/-! The data layer, part 9: lists of lists of one's own. -/
namespace DL
open PySem PySem.Spec PyProof.Rows L2
section
variable {B : Bs} {σ : L2.St} {H S : Hp} {ρ : Nv} {g : G}
/-- a list of lists of one's own, and its rows, are changed -/
theorem Good.mutR (I : Good B σ H S ρ g) {i : Nat} {b : Ob} {a : Addr} {rows' : List (List PyData)} {cs' : List Addr} (hi : ρ[i]? = some (.ow b)) (ha : σ[i]? = some (some (.ref a))) (H' : Hp) (out : ∀ x, x ≠ a → x ∉ cs' → H' x = H x)
    (h1 : H' a = some (.lst (cs'.map V.ref))) (hl : cs'.length = rows'.length) (hd : cs'.Nodup) (hna : a ∉ cs') (hrow : ∀ (k : Nat) (c : Addr) (row : List PyData), cs'[k]? = some c → rows'[k]? = some row → ∃ vs, H' c = some (.lst vs) ∧ Rps S vs row)
    (hown : ∀ c ∈ cs', S c = none ∧ (B.live = true → c ≠ B.A) ∧ B.H c = none) (hoth : ∀ (j : Nat) (b : Ob) (a' : Addr), j ≠ i → ρ[j]? = some (.ow b) → σ[j]? = some (some (.ref a')) → a' ∉ cs')
    (hoth2 : ∀ (j : Nat) (rows2 : List (List PyData)) (a2 : Addr) (cs2 : List Addr), j ≠ i → ρ[j]? = some (.ow (.mat rows2)) → σ[j]? = some (some (.ref a2)) → H a2 = some (.lst (cs2.map V.ref)) → ∀ c ∈ cs2, c ∉ cs') : Good B σ H' S (ρ.set i (.ow (.mat rows'))) g := by
  obtain ⟨a0, o, q1, q2, q3, q4, q5, q6⟩ := I.ow i b hi
  have e := addr_of ha q1
  subst e
  have hlt : i < ρ.length := (List.getElem?_eq_some_iff.mp hi).1
  have key : ∀ (j : Nat) (z : Sl), (ρ.set i (.ow (.mat rows')))[j]? = some z → (j = i ∧ z = .ow (.mat rows')) ∨ (j ≠ i ∧ ρ[j]? = some z) := fun j z h => by
    by_cases hj : j = i
    · subst hj
      rw [List.getElem?_set_self hlt] at h
      exact .inl ⟨rfl, (Option.some.inj h).symm⟩
    · rw [List.getElem?_set_ne (Ne.symm hj)] at h
      exact .inr ⟨hj, h⟩
  have isow : ∀ (j : Nat) (c : Ob), (ρ.set i (.ow (.mat rows')))[j]? = some (.ow c) → ∃ c', ρ[j]? = some (.ow c') := fun j c h => by
    rcases key j _ h with ⟨rfl, _⟩ | ⟨_, h⟩
    · exact ⟨b, hi⟩
    · exact ⟨c, h⟩
  have stay : ∀ x, (S x ≠ none ∨ B.H x ≠ none ∨ (B.live = true ∧ x = B.A)) → H' x = H x := fun x h => by
    refine out x (fun z => ?_) fun z => ?_
    · subst z
      rcases h with h | h | ⟨h, h'⟩
      · exact h q2
      · exact h q4
      · exact q3 h h'
    · obtain ⟨k1, k2, k3⟩ := hown x z
      rcases h with h | h | ⟨h, h'⟩
      · exact h k1
      · exact h k3
      · exact k2 h h'
  have other : ∀ (j : Nat) (c : Ob) (x : Addr), j ≠ i → ρ[j]? = some (.ow c) → σ[j]? = some (some (.ref x)) → H' x = H x := fun j c x hj k1 k2 => out x (fun z => hj (I.ap j i c b a k1 hi (by rw [k2, z]) ha)) (hoth j c x hj k1 k2)
  refine ⟨⟨fun c o q => ?_, fun c o q n => ?_, I.base, I.new, fun c q => ?_, I.no, I.dr.mono (Same.refl _) fun hv => stay B.A (.inr (.inr ⟨hv, rfl⟩))⟩, by rw [List.length_set]; exact I.len, fun j d h => ?_, fun j h => ?_, fun j h => ?_, fun j c h => ?_, fun j l c d x k1 k2 k3 k4 => ?_, fun j rows x cs k1 k2 k3 => ?_⟩
  · rw [stay c (.inl (by rw [q]; simp))]; exact I.sub _ _ q
  · rw [stay c (.inr (.inl (by rw [q]; simp)))]; exact I.keep c o q n
  · rw [stay c (.inr (.inl q))]; exact I.there c q
  · rcases key j _ h with ⟨rfl, e⟩ | ⟨_, h⟩
    · cases e
    · exact I.sh j d h
  · rcases key j _ h with ⟨rfl, e⟩ | ⟨_, h⟩
    · cases e
    · exact I.dw j h
  · rcases key j _ h with ⟨rfl, e⟩ | ⟨_, h⟩
    · cases e
    · exact I.sw j h
  · rcases key j _ h with ⟨rfl, e⟩ | ⟨hj, h⟩
    · cases e
      exact ⟨a, _, ha, q2, q3, q4, h1, .mat hl⟩
    · obtain ⟨x, u, p1, p2, p3, p4, p5, p6⟩ := I.ow j c h
      exact ⟨x, u, p1, p2, p3, p4, by rw [other j c x hj h p1]; exact p5, p6⟩
  · obtain ⟨c', k1⟩ := isow j c k1
    obtain ⟨d', k2⟩ := isow l d k2
    exact I.ap j l c' d' x k1 k2 k3 k4
  · rcases key j _ k1 with ⟨ej, e⟩ | ⟨hj, m1⟩
    · subst ej
      injection e with e
      injection e with e
      subst e
      have ex := addr_of ha k2
      subst ex
      rw [h1] at k3
      injection k3 with k3
      injection k3 with k3
      have ec := refs_inj k3
      subst ec
      refine ⟨⟨hd, fun k c row e1 e2 => ?_⟩, fun l c y l1 l2 => ?_, fun l rows2 y cs2 hl2 l1 l2 l3 c hc hc2 => ?_⟩
      · obtain ⟨o1, o2, o3⟩ := hown c (List.mem_of_getElem? e1)
        exact ⟨o1, o2, o3, hrow k c row e1 e2⟩
      · by_cases hlj : l = j
        · subst hlj
          rw [← addr_of ha l2]; exact hna
        · rcases key l _ l1 with ⟨z, _⟩ | ⟨_, l1⟩
          · exact absurd z hlj
          · exact hoth l c y hlj l1 l2
      · rcases key l _ l1 with ⟨z, _⟩ | ⟨_, l1⟩
        · exact hl2 z
        · rw [other l _ y hl2 l1 l2] at l3
          exact hoth2 l rows2 y cs2 hl2 l1 l2 l3 c hc2 hc
    · rw [other j _ x hj m1 k2] at k3
      obtain ⟨R, A1, A2⟩ := I.mx j rows x cs m1 k2 k3
      refine ⟨R.move (Same.refl _) (fun c hc => out c (fun z => A1 i b a hi ha (by rw [← z]; exact hc)) (hoth2 j rows x cs hj m1 k2 k3 c hc)) (fun c hc => (R.row (I.rowsAt m1 k2 k3) hc).1), fun l c y l1 l2 => ?_, fun l rows2 y cs2 hlj l1 l2 l3 c hc => ?_⟩
      · obtain ⟨c', l1⟩ := isow l c l1
        exact A1 l c' y l1 l2
      · rcases key l _ l1 with ⟨z, e⟩ | ⟨hli, l1⟩
        · subst z
          have ex := addr_of ha l2
          subst ex
          rw [h1] at l3
          injection l3 with l3
          injection l3 with l3
          have ec := refs_inj l3
          subst ec
          exact hoth2 j rows x cs hj m1 k2 k3 c hc
        · rw [other l _ y hli l1 l2] at l3
          exact A2 l rows2 y cs2 hlj l1 l2 l3 c hc
/-- a new row behind the others -/
theorem Good.rowNew {H0 S0 : Hp} {g0 : G} (I0 : Good B σ H0 S0 ρ g0) (I : Good B σ H S ρ g) (gr : Gr B H0 S0 H S) {i : Nat} {rows : List (List PyData)} {xs : List PyData} {a c : Addr} {cs : List Addr} {vs : List V} (hi : ρ[i]? = some (.ow (.mat rows))) (ha : σ[i]? = some (some (.ref a))) (h1 : H a = some (.lst (cs.map V.ref)))
    (n1 : S c = none) (n2 : H0 c = none) (hc : H c = some (.lst vs)) (r : Rps S vs xs) : Good B σ (upd H a (.lst (cs.map V.ref ++ [V.ref c]))) S (ρ.set i (.ow (.mat (rows ++ [xs])))) g := by
  have hl := I.rowsAt hi ha h1
  obtain ⟨R, A1, A2⟩ := I.mx i rows a cs hi ha h1
  -- what was there is not c
  have was : ∀ x, H0 x ≠ none → x ≠ c := fun x h z => h (by rw [z]; exact n2)
  have ownH : ∀ (j : Nat) (b : Ob) (x : Addr), ρ[j]? = some (.ow b) → σ[j]? = some (some (.ref x)) → H0 x ≠ none ∧ H x = H0 x := fun j b x k1 k2 => by
    obtain ⟨x0, o, p1, p2, p3, p4, p5, p6⟩ := I0.ow j b k1
    have e := addr_of k2 p1
    subst e
    exact ⟨by rw [p5]; simp, by rw [p5]; exact gr.keep x o p5 p3⟩
  have matH : ∀ (j : Nat) (rows2 : List (List PyData)) (x : Addr) (cs2 : List Addr), ρ[j]? = some (.ow (.mat rows2)) → σ[j]? = some (some (.ref x)) → H x = some (.lst (cs2.map V.ref)) → ∀ y ∈ cs2, y ≠ c := fun j rows2 x cs2 k1 k2 k3 y hy => by
    rw [(ownH j _ x k1 k2).2] at k3
    exact was y ((I0.mx j rows2 x cs2 k1 k2 k3).1.row (I0.rowsAt k1 k2 k3) hy).2.2.2
  have hac : a ≠ c := was a (ownH i _ a hi ha).1
  have hoc : S c = none ∧ (B.live = true → c ≠ B.A) ∧ B.H c = none := ⟨n1, fun hv z => I0.neA n2 hv z.symm, by
    cases q : B.H c with
    | none => rfl
    | some u => exact absurd n2 (I0.there c (by rw [q]; simp))⟩
  refine I.mutR hi ha (cs' := cs ++ [c]) _ (fun x hx _ => upd_ne hx) (by rw [upd_same, List.map_append]; rfl) (by rw [List.length_append, List.length_append, hl]; rfl) ?_ ?_ ?_ ?_ ?_ ?_
  · rw [List.nodup_append]
    exact ⟨R.nd, by simp, fun x hx y hy => by rw [List.mem_singleton.mp hy]; exact matH i rows a cs hi ha h1 x hx⟩
  · intro z
    rcases List.mem_append.mp z with z | z
    · exact A1 i _ a hi ha z
    · exact hac (List.mem_singleton.mp z)
  · intro k x row e1 e2
    by_cases hk : k < cs.length
    · rw [List.getElem?_append_left hk] at e1
      rw [List.getElem?_append_left (by omega)] at e2
      obtain ⟨_, _, _, ws, w1, w2⟩ := R.at_ k x row e1 e2
      have hx : x ≠ a := fun z => A1 i _ a hi ha (by rw [← z]; exact List.mem_of_getElem? e1)
      exact ⟨ws, by rw [upd_ne hx]; exact w1, w2⟩
    · rw [List.getElem?_append_right (by omega)] at e1
      rw [List.getElem?_append_right (by omega)] at e2
      obtain rfl := List.mem_singleton.mp (List.mem_of_getElem? e1)
      obtain rfl := List.mem_singleton.mp (List.mem_of_getElem? e2)
      exact ⟨vs, by rw [upd_ne (Ne.symm hac)]; exact hc, r⟩
  · intro x hx
    rcases List.mem_append.mp hx with z | z
    · obtain ⟨k1, k2, k3, _⟩ := R.row hl z
      exact ⟨k1, k2, k3⟩
    · rw [List.mem_singleton.mp z]; exact hoc
  · intro j b x hj k1 k2 z
    rcases List.mem_append.mp z with z | z
    · exact A1 j b x k1 k2 z
    · exact was x (ownH j b x k1 k2).1 (List.mem_singleton.mp z)
  · intro j rows2 x cs2 hj k1 k2 k3 y hy z
    rcases List.mem_append.mp z with z | z
    · exact A2 j rows2 x cs2 hj k1 k2 k3 y z hy
    · exact matH j rows2 x cs2 k1 k2 k3 y hy (List.mem_singleton.mp z)
/-- a cell of a row -/
theorem Good.cell (I : Good B σ H S ρ g) {i k : Nat} {rows : List (List PyData)} {row' : List PyData} {a c : Addr} {cs : List Addr} {vs' : List V} (hi : ρ[i]? = some (.ow (.mat rows))) (ha : σ[i]? = some (some (.ref a))) (h1 : H a = some (.lst (cs.map V.ref)))
    (hk : cs[k]? = some c) (r : Rps S vs' row') : Good B σ (upd H c (.lst vs')) S (ρ.set i (.ow (.mat (rows.set k row')))) g := by
  have hl := I.rowsAt hi ha h1
  obtain ⟨R, A1, A2⟩ := I.mx i rows a cs hi ha h1
  have hcm : c ∈ cs := List.mem_of_getElem? hk
  have hac : a ≠ c := fun z => A1 i _ a hi ha (by rw [z]; exact hcm)
  refine I.mutR hi ha (cs' := cs) _ (fun x _ hx => upd_ne fun z => hx (by rw [z]; exact hcm)) (by rw [upd_ne hac]; exact h1) (by rw [List.length_set]; exact hl) R.nd (A1 i _ a hi ha) (fun m x row e1 e2 => ?_) (fun x hx => ?_) (fun j b x _ k1 k2 => A1 j b x k1 k2) fun j rows2 x cs2 hj k1 k2 k3 y hy z => A2 j rows2 x cs2 hj k1 k2 k3 y z hy
  · by_cases hm : m = k
    · subst hm
      rw [hk] at e1
      cases e1
      rw [List.getElem?_set_self (by have := (List.getElem?_eq_some_iff.mp hk).1; omega)] at e2
      cases e2
      exact ⟨vs', upd_same, r⟩
    · rw [List.getElem?_set_ne (Ne.symm hm)] at e2
      obtain ⟨_, _, _, ws, w1, w2⟩ := R.at_ m x row e1 e2
      have hx : x ≠ c := fun z => by
        subst z
        have i1 := (List.getElem?_eq_some_iff.mp hk)
        have i2 := (List.getElem?_eq_some_iff.mp e1)
        exact hm ((List.getElem?_inj (List.getElem?_eq_some_iff.mp e1).1 R.nd).mp (e1.trans hk.symm))
      exact ⟨ws, by rw [upd_ne hx]; exact w1, w2⟩
  · obtain ⟨k1, k2, k3, _⟩ := R.row hl hx
    exact ⟨k1, k2, k3⟩
/-- an empty list as an empty list of lists -/
theorem Good.asMat (I : Good B σ H S ρ g) {i : Nat} (hi : ρ[i]? = some (.ow (.lst []))) : Good B σ H S (ρ.set i (.ow (.mat []))) g := by
  obtain ⟨a, o, q1, q2, q3, q4, q5, q6⟩ := I.ow i _ hi
  cases q6 with
  | @lst _ vs r =>
    cases r with
    | nil => exact I.mutR hi q1 (cs' := []) H (fun _ _ _ => rfl) q5 rfl List.nodup_nil (by simp) (fun k c row e1 _ => by simp at e1) (fun c hc => by cases hc) (fun _ _ _ _ _ _ z => by cases z) fun _ _ _ _ _ _ _ _ _ _ z => by cases z
end
section
variable {X : Cx} {cls : Nat → Value} {W : WX} {pos : Pos} {a b b2 c e : Expr} {fa fb fb2 fc : Ex} {D : Ends} {σ : L2.St} {H : Hp} {st : Stmt} {rest : List Stmt} {k : Nat}
/-- x.append(a new list), x a list of lists of one's own -/
def rowS (i : Nat) (f : Ow) : Sm := fun ρ g => match f ρ g with
  | .ok (.lst xs) g1 => (match ρ[i]? with
    | some (.ow (.mat rows)) => if rows.length < big then .nx (ρ.set i (.ow (.mat (rows ++ [xs])))) g1 else .bad
    | some (.ow (.lst [])) => .nx (ρ.set i (.ow (.mat [xs]))) g1
    | _ => .bad)
  | _ => .bad
theorem big_lt' {n : Nat} (h : n < big) : n < sizeLine := by
  rw [sizeLine_eq]
  unfold big at h
  omega
theorem psd_row (i : Nat) {x : Str} {p apos cpos : Pos} {fo : Ow} (ha : PE X a (tO cls W fo)) (hN : X.N[i]? = some x := by rfl) (hv : Vis X.env.scope x := by first | exact Or.inl rfl | exact Or.inr (Or.inl rfl) | exact Or.inr (Or.inr rfl)) (hd : (x == ("__debug__" : Str)) = false := by decide) (hcd : (x == ("__classdict__" : Str)) = false := by decide)
    (hb : attributeBase (.Name x p) "append" X.env (eval (.Name x p) X.env) = eval (.Name x p) X.env := by rfl)
    (hz : (((((backTo cpos (starEach (a :: []) X.env)).all fun x => !x.1) && (backToKw cpos (keywordEach [] X.env)).all fun x => x.1.isSome) && decide (((a :: ([] : List Expr)).length + ([] : List Keyword).length + if ([] : List Keyword).isEmpty = true then 0 else 1) < 30)) = true) := by rfl)
    (hl : (apos.endLine == cpos.line) = true := by rfl) (hs : starEach [a] X.env = (false, eval a X.env) :: starEach [] X.env := by rfl) (hpl : ((backTo cpos (starEach [] X.env)).any fun x => x.1) = false := by rfl)
    (hsw : swapsWith (.Call (.Attribute (.Name x p) "append" apos) [a] [] cpos) none pos.line X.env = pure false := by rfl) :
    PS X (.Expr (.Call (.Attribute (.Name x p) "append" apos) [a] [] cpos) pos) (tS cls W (rowS i fo)) :=
  PS_imp (ps_expr (pe_bm PySem.F.plainAttrs_list PySem.F.slot_list_append PySem.F.type_list_append mt_append (pe_var hN hv hd hcd) (pa_cons ha pa_nil hs) hb hz hl hs hpl) hsw) fun D σ H ⟨B, S, ρ, g, I, h⟩ => by
    unfold rowS at h
    cases ef : fo ρ g with
    | bad => rw [ef] at h; exact False.elim h
    | ex n g1 => rw [ef] at h; exact False.elim h
    | ok y g1 =>
      rw [ef] at h
      cases y with
      | lst xs =>
        simp only at h
        split at h
        · rename_i rows hi
          by_cases hb : rows.length < big
          · rw [if_pos hb] at h
            obtain ⟨l, cs, h1, h2, h3, h4, h5, h6, R⟩ := I.rows hi
            refine ⟨.ref l, h1, .inl ⟨rfl, _, .of h2⟩, B, S, ρ, g, I, ?_⟩
            rw [ef]
            intro c o H1 S1 I1 e1 n1 n2 ho r
            cases r with
            | @lst _ vs r =>
              have k2 := e1.keep l _ h2 h5
              exact ⟨l, _, .ref c, rfl, rfl, k2, by rw [List.length_map, h3]; exact big_lt' hb, h _ _ _ (I.rowNew I1 e1 hi h1 k2 n1 n2 ho r) e1.base⟩
          · rw [if_neg hb] at h; exact False.elim h
        · rename_i hi
          obtain ⟨l, o, h1, h2, h3, h4, h5, h6⟩ := I.ow i _ hi
          cases h6 with
          | @lst _ vs r0 =>
            cases r0 with
            | nil =>
              refine ⟨.ref l, h1, .inl ⟨rfl, _, .of h5⟩, B, S, ρ, g, I, ?_⟩
              rw [ef]
              intro c o H1 S1 I1 e1 n1 n2 ho r
              cases r with
              | @lst _ ws r =>
                have hlt : i < ρ.length := (List.getElem?_eq_some_iff.mp hi).1
                have k2 := e1.keep l _ h5 h3
                have q := (I.asMat hi).rowNew (I1.asMat hi) e1 (rows := []) (cs := []) (List.getElem?_set_self hlt) h1 k2 n1 n2 ho r
                rw [List.set_set] at q
                exact ⟨l, _, .ref c, rfl, rfl, k2, by rw [sizeLine_eq]; exact (by decide), h _ _ _ q e1.base⟩
        · exact False.elim h
      | _ => exact False.elim h
/-- x[e1][e2] = e3, x a list of lists of one's own -/
def cellS (i : Nat) (f1 f2 fv : Ex) : Sm := stE fv fun d ρ g => match f1 ρ g with
  | .ok (.int k1) g1 => (match f2 ρ g1 with
    | .ok (.int k2) g2 => (match ρ[i]? with
      | some (.ow (.mat rows)) => (match L2.ixN rows.length k1 with
        | some j => (match rows[j]? with
          | some row => (match L2.ixN row.length k2 with
            | some m => .nx (ρ.set i (.ow (.mat (rows.set j (row.set m d))))) g2
            | none => .bad)
          | none => .bad)
        | none => .bad)
      | _ => .bad)
    | _ => .bad)
  | _ => .bad
theorem psd_cell (i : Nat) {x : Str} {p pos' pos2 : Pos} (hk : PE X b (tE cls W fb)) (hk2 : PE X b2 (tE cls W fb2)) (ha : PE X a (tE cls W fa)) (hN : X.N[i]? = some x := by rfl) (hv : Vis X.env.scope x := by first | exact Or.inl rfl | exact Or.inr (Or.inl rfl) | exact Or.inr (Or.inr rfl)) (hd : (x == ("__debug__" : Str)) = false := by decide) (hcd : (x == ("__classdict__" : Str)) = false := by decide)
    (h0 : ∀ v, assign (.Subscript (.Subscript (.Name x p) b pos2) b2 pos') X.env v = (do
      let ov ← holding [v] (eval (.Subscript (.Name x p) b pos2) X.env)
      let iv ← holding [v, ov] (eval b2 X.env)
      standAt pos'
      holding [v, ov, iv] (setItem ov iv v)
      release [v, ov, iv] []) := by intro _; rfl)
    (hs : swapsWithSole [.Subscript (.Subscript (.Name x p) b pos2) b2 pos'] a pos.line X.env = pure false := by rfl) (hw : swappedStores [.Subscript (.Subscript (.Name x p) b pos2) b2 pos'] a X.env = pure none := by rfl)
    (h1 : (assignEach [.Subscript (.Subscript (.Name x p) b pos2) b2 pos'] X.env).map (·.2) = [assign (.Subscript (.Subscript (.Name x p) b pos2) b2 pos') X.env] := by rfl) (hpl : PlainIx b := by exact fun _ _ => rfl) :
    PS X (.Assign [.Subscript (.Subscript (.Name x p) b pos2) b2 pos'] a pos) (tS cls W (cellS i fb fb2 fa)) :=
  PS_imp (ps_asg ha (pg_sub (pe_ix ix_list (pe_var hN hv hd hcd) hk hpl) hk2 set_list h0) hs hw h1) fun D σ H h => st_of h fun B S ρ g d v H1 I r q => by
    split at q
    · rename_i k1 g1 e1
      split at q
      · rename_i k2 g2 e2
        split at q
        · rename_i rows hi
          split at q
          · rename_i j ej
            split at q
            · rename_i row er
              split at q
              · rename_i m em
                obtain ⟨l, cs, h1, h2, h3, h4, h5, h6, R⟩ := I.rows hi
                refine ⟨.ref l, h1, B, S, ρ, g, I, ?_⟩
                rw [e1]
                intro iv H2 S2 I2 gr2 r2
                cases r2 with
                | int _ =>
                  have k2' := gr2.keep l _ h2 h5
                  obtain ⟨R2, _⟩ := I2.mx i rows l cs hi h1 k2'
                  have hj : j < cs.length := by rw [h3]; exact (List.getElem?_eq_some_iff.mp er).1
                  obtain ⟨o1, o2, o3, vs, o4, o5⟩ := R2.at_ j cs[j] row (List.getElem?_eq_getElem hj) er
                  refine ⟨l, _, k1, .ref cs[j], rfl, rfl, .of k2', ?_, B, S2, ρ, g1, I2, ?_⟩
                  · unfold L2.atI
                    rw [List.length_map, h3, ej]
                    show (cs.map V.ref)[j]? = _
                    rw [List.getElem?_map, List.getElem?_eq_getElem hj]
                    rfl
                  · rw [e2]
                    intro iv3 H3 S3 I3 gr3 r3
                    cases r3 with
                    | int _ =>
                      have k3' := gr3.keep l _ k2' h5
                      have o4' := gr3.keep cs[j] _ o4 o2
                      refine ⟨cs[j], vs, k2, m, rfl, rfl, o4', by rw [o5.length]; exact em, ?_⟩
                      exact q _ _ _ (I3.cell hi h1 k3' (List.getElem?_eq_getElem hj) ((o5.mono gr3.base).set m (r.mono (gr2.base.trans gr3.base)))) (gr2.base.trans gr3.base)
              · exact False.elim q
            · exact False.elim q
          · exact False.elim q
        · exact False.elim q
      · exact False.elim q
    · exact False.elim q
end
end DL

set_option Elab.async false
set_option linter.all false
set_option maxRecDepth 100000
set_option maxHeartbeats 400000
/-! The data layer, part 10: xs[e] of a list of one's own, [..] * n of one's own, list(range(n)), xs.index(truth value). -/
namespace DL
open PySem PySem.Spec PyProof.Rows L2
section
variable {X : Cx} {cls : Nat → Value} {W : WX} {pos : Pos} {a b c e : Expr} {fa fb fc : Ex} {D : Ends} {σ : L2.St} {H : Hp} {k : Nat}
/-- x[e], x a list of one's own: an item of it is a datum -/
def ixO (i : Nat) (f : Ex) : Ex := fun ρ g => match ρ[i]? with
  | some (.ow (.lst ds)) => (f ρ g).bind fun d g1 => match d with
    | .int k => ofO (L2.atI ds k) g1
    | _ => .bad
  | _ => .bad
theorem pd_ixO (i : Nat) {x : Str} {p : Pos} (hb : PE X b (tE cls W fb)) (hN : X.N[i]? = some x := by rfl) (hv : Vis X.env.scope x := by first | exact Or.inl rfl | exact Or.inr (Or.inl rfl) | exact Or.inr (Or.inr rfl)) (hd : (x == ("__debug__" : Str)) = false := by decide) (hcd : (x == ("__classdict__" : Str)) = false := by decide) (hs : PlainIx b := by exact fun _ _ => rfl) :
    PE X (.Subscript (.Name x p) b pos) (tE cls W (ixO i fb)) :=
  PE_imp (pe_ix ix_list (pe_var hN hv hd hcd) hb hs) fun σ H Q ⟨B, S, ρ, g, I, h⟩ => by
    unfold ixO at h
    split at h
    · rename_i ds hi
      obtain ⟨l, o, h1, h2, h3, h4, h5, h6⟩ := I.ow i _ hi
      cases h6 with
      | @lst _ vs r0 =>
        refine ⟨.ref l, h1, B, S, ρ, g, I, ?_⟩
        cases eb : fb ρ g with
        | bad => rw [eb] at h; exact h
        | ex n g1 => rw [eb] at h; exact h
        | ok d g1 =>
          rw [eb] at h
          intro u H1 S1 I1 e1 r1
          simp only [R.bind_ok] at h
          cases r1 with
          | int m =>
            simp only at h
            cases ej : L2.atI ds m with
            | none => rw [ej] at h; exact False.elim h
            | some d =>
              rw [ej] at h
              have r0' := r0.mono e1.base
              unfold L2.atI at ej
              cases en : L2.ixN ds.length m with
              | none => rw [en] at ej; cases ej
              | some j =>
                rw [en] at ej
                obtain ⟨v, k1, k2⟩ := r0'.getD (i := j) (d := d) ej
                refine ⟨l, vs, m, v, rfl, rfl, .of (e1.keep l _ h5 h3), ?_, h v H1 S1 I1 e1 k2⟩
                unfold L2.atI
                rw [r0.length, en]
                exact k1
          | _ => exact False.elim h
    · exact False.elim h
/-- [..] * n, a new list -/
def mulO (fa fb : Ex) : Ow := fun ρ g => (fa ρ g).bind fun x g1 => (fb ρ g1).bind fun y g2 => match x, y with
  | .list ds, .int j => if -1000000 ≤ j ∧ j ≤ 1000000 ∧ ds.length * j.toNat ≤ big then .ok (.lst (List.replicate j.toNat ds).flatten) g2 else .bad
  | _, _ => .bad
theorem po_mul (ha : PE X a (tE cls W fa)) (hb : PE X b (tE cls W fb)) : PE X (.BinOp a .Mult b pos) (tO cls W (mulO fa fb)) :=
  PE_imp (pe_op op_mulA ha hb) fun σ H Q ⟨B, S, ρ, g, I, h⟩ => by
    unfold mulO at h
    refine ⟨B, S, ρ, g, I, ?_⟩
    cases ea : fa ρ g with
    | bad => rw [ea] at h; exact h
    | ex n g1 => rw [ea] at h; exact h
    | ok x g1 =>
      rw [ea] at h
      intro v H1 S1 I1 e1 r1
      refine ⟨B, S1, ρ, g1, I1, ?_⟩
      simp only [R.bind_ok] at h
      cases eb : fb ρ g1 with
      | bad => rw [eb] at h; exact h
      | ex n g2 => rw [eb] at h; exact fun H' S' I' e' => h H' S' I' (e1.trans e')
      | ok y g2 =>
        rw [eb] at h
        intro u H2 S2 I2 e2 r2
        simp only [R.bind_ok] at h
        cases r1 with
        | @lst l xs ds hx qx =>
          cases r2 with
          | int j =>
            simp only at h
            by_cases hz : -1000000 ≤ j ∧ j ≤ 1000000 ∧ ds.length * j.toNat ≤ big
            · rw [if_pos hz] at h
              refine .inr (.inr ⟨l, j, xs, rfl, rfl, I2.sub _ _ (e2.base _ _ hx), by omega, by omega, big_line (by rw [qx.length]; exact hz.2.2), fun p hp => ?_⟩)
              obtain ⟨I3, e3⟩ := I2.allocO (o := .lst (List.replicate j.toNat xs).flatten) hp
              have e13 := (e1.trans e2).trans e3
              exact h p _ _ S2 I3 e13 (I2.stay hp) (none_back (e1.trans e2) hp) upd_same (.lst ((qx.mono e2.base).flatten _))
            · rw [if_neg hz] at h; exact False.elim h
          | _ => exact False.elim h
        | _ => exact False.elim h
/-- list(range(n)) -/
def listRgD : PyData → Option PyData
  | .int n => if n ≤ (big : Int) ∧ -(big : Int) ≤ n then some (.list (upFrom 0 n.toNat)) else none
  | _ => none
theorem rg_up (S : Hp) (n : Int) : Rps S (rgV 0 n) (upFrom 0 n.toNat) := by
  refine Rps.of_get (by unfold rgV upFrom; rw [List.length_map, List.length_map, List.length_range, List.length_range]; omega) fun k v d h1 h2 => ?_
  unfold rgV at h1
  unfold upFrom at h2
  rw [List.getElem?_map] at h1 h2
  obtain ⟨i, hi, rfl⟩ := Option.map_eq_some_iff.mp h1
  obtain ⟨j, hj, rfl⟩ := Option.map_eq_some_iff.mp h2
  have e1 := (List.getElem?_eq_some_iff.mp hi).2
  have e2 := (List.getElem?_eq_some_iff.mp hj).2
  rw [List.getElem_range] at e1 e2
  subst e1 e2
  exact .int _
theorem pd_listRg {p p2 pos2 : Pos} (hc : X.calm = true) (hm : X.mg "list" = none) (hm2 : X.mg "range" = none) (ha : PE X a (tE cls W fa)) (hg : Gl X "list" := by rfl) (hg2 : Gl X "range" := by rfl)
    (na : starEach [a] X.env = (false, eval a X.env) :: starEach [] X.env := by rfl) (na2 : starEach [Expr.Call (.Name "range" p2) [a] [] pos2] X.env = (false, eval (Expr.Call (.Name "range" p2) [a] [] pos2) X.env) :: starEach [] X.env := by rfl) :
    PE X (.Call (.Name "list" p) [.Call (.Name "range" p2) [a] [] pos2] [] pos) (tE cls W (unD listRgD fa)) :=
  PE_imp (pe_listRg hc hg hm (prg_1 hg2 hm2 ha na) na2) fun σ H Q h => un_of (r := fun x H1 Q => ∃ n, x = .int n ∧ RgOk 0 n ∧ ∀ q, H1 q = none → Q (.ref q) (upd H1 q (.lst (rgV 0 n)))) (fun B σ H S ρ g x d v Q e I r k => by
    cases r with
    | int n =>
      unfold listRgD at e
      by_cases hz : n ≤ (big : Int) ∧ -(big : Int) ≤ n
      · simp only [if_pos hz] at e
        cases e
        unfold big at hz
        refine ⟨n, rfl, ⟨by omega, by omega, by omega, by omega, by omega⟩, fun q hq => ?_⟩
        obtain ⟨I2, e2⟩ := I.alloc (o := .lst (rgV 0 n)) hq
        exact k _ _ _ I2 e2 (.lst upd_same (rg_up _ n))
      · simp only [if_neg hz] at e; cases e
    | _ => cases e) σ H Q h
/-- xs.index(a truth value), xs a list of truth values -/
def boolsD : List PyData → Option (List Bool)
  | [] => some []
  | .bool b :: ds => (boolsD ds).map (b :: ·)
  | _ :: _ => none
theorem boolsD_eq : ∀ {ds : List PyData} {bs : List Bool}, boolsD ds = some bs → ds = bs.map PyData.bool
  | [], bs, e => by cases e; rfl
  | d :: ds, bs, e => by
    cases d with
    | bool b =>
      simp only [boolsD] at e
      obtain ⟨r, hr, rfl⟩ := Option.map_eq_some_iff.mp e
      rw [boolsD_eq hr]; rfl
    | _ => cases e
theorem boolsD_map : ∀ bs : List Bool, boolsD (bs.map PyData.bool) = some bs
  | [] => rfl
  | b :: r => by simp [boolsD, boolsD_map r]
theorem Rps.bools {S : Hp} : ∀ {bs : List Bool} {vs : List V}, Rps S vs (bs.map PyData.bool) → vs = bs.map V.bl
  | [], _, .nil => rfl
  | b :: bs, _, .cons r t => by cases r; rw [Rps.bools t]; rfl
def indexD : PyData → PyData → Option PyData
  | .list ds, .bool b => (boolsD ds).bind fun bs => if b ∈ bs then some (.int (bs.findIdx (· == b))) else none
  | _, _ => none
@[simp] def indexE (fa fb : Ex) : Ex := fun ρ g => (fa ρ g).bind fun x g1 => match x with
  | .list ds => (fb ρ g1).bind fun y g2 => ofO (indexD (.list ds) y) g2
  | _ => .bad
theorem pd_index {o : Expr} {apos cpos : Pos} (ho : PE X o (tE cls W fa)) (he : PE X e (tE cls W fb)) (hbase : attributeBase o "index" X.env (eval o X.env) = eval o X.env := by rfl)
    (hfew : ((backTo cpos (starEach (e :: []) X.env)).all (fun x => !x.1) && (backToKw cpos (keywordEach [] X.env)).all (fun x => x.1.isSome)
      && decide ((e :: ([] : List Expr)).length + ([] : List Keyword).length + (if ([] : List Keyword).isEmpty then 0 else 1) < 30)) = true := by rfl)
    (hline : (apos.endLine == cpos.line) = true := by rfl) (hs : starEach (e :: []) X.env = (false, eval e X.env) :: starEach [] X.env := by rfl) (hplain : (backTo cpos (starEach [] X.env)).any (·.1) = false := by rfl) :
    PE X (.Call (.Attribute o "index" apos) (e :: []) [] cpos) (tE cls W (indexE fa fb)) :=
  PE_imp (pe_bm PySem.F.plainAttrs_list PySem.F.slot_list_index PySem.F.type_list_index mt_index ho (pa_cons he pa_nil hs) hbase hfew hline hs hplain) fun σ H Q ⟨B, S, ρ, g, I, h⟩ => by
    unfold indexE at h
    refine ⟨B, S, ρ, g, I, ?_⟩
    cases ea : fa ρ g with
    | bad => rw [ea] at h; exact h
    | ex n g1 => rw [ea] at h; exact h
    | ok x g1 =>
      rw [ea] at h
      simp only [R.bind_ok] at h
      intro v H1 S1 I1 e1 r1
      cases r1 with
      | @lst l xs ds hx qx =>
        refine ⟨.inl ⟨rfl, xs, .of (I1.sub _ _ hx)⟩, B, S1, ρ, g1, I1, ?_⟩
        cases eb : fb ρ g1 with
        | bad => rw [eb] at h; exact h
        | ex n g2 => rw [eb] at h; exact fun H' S' I' e' => h H' S' I' (e1.trans e')
        | ok y g2 =>
          rw [eb] at h
          simp only [R.bind_ok] at h
          intro u H2 S2 I2 e2 r2
          cases r2 with
          | bl b =>
            unfold indexD at h
            simp only at h
            cases hb : boolsD ds with
            | none => rw [hb] at h; exact False.elim h
            | some bs =>
              rw [hb] at h
              simp only [Option.bind_some] at h
              by_cases hm : b ∈ bs
              · rw [if_pos hm] at h
                rw [boolsD_eq hb] at qx
                have ex := qx.bools
                subst ex
                have hlt : bs.findIdx (· == b) < bs.length := List.findIdx_lt_length_of_exists ⟨b, hm, by simp⟩
                refine ⟨l, _, .bl b, bs.findIdx (· == b), .bl bs[bs.findIdx (· == b)], rfl, rfl, .of (I2.sub _ _ (e2.base _ _ hx)), rfl, ?_, ?_, ?_, ?_, ?_⟩
                · rw [List.all_eq_true]
                  intro z hz
                  obtain ⟨y, _, rfl⟩ := List.mem_map.mp hz
                  rfl
                · rw [List.getElem?_map, List.getElem?_eq_getElem hlt]; rfl
                · have := List.findIdx_getElem (w := hlt)
                  exact this
                · intro m z' hm' hz
                  rw [List.getElem?_map] at hz
                  obtain ⟨y, hy, rfl⟩ := Option.map_eq_some_iff.mp hz
                  have := List.not_of_lt_findIdx hm'
                  rw [(List.getElem?_eq_some_iff.mp hy).2] at this
                  exact this
                · exact h _ H2 S2 I2 (e1.trans e2) (.int _)
              · rw [if_neg hm] at h; exact False.elim h
          | _ => exact False.elim h
      | _ => exact False.elim h
/-- a test A if c else B -/
@[simp] def ifT (t a b : Te) : Te := fun ρ g => (t ρ g).bind fun k g1 => if k = true then a ρ g1 else b ρ g1
theorem pwd_ifx {c a b : Expr} {fc fa fb : Te} (hc : PT X c (tT cls W fc)) (ha : PT X a (tT cls W fa)) (hb : PT X b (tT cls W fb)) : PW X (.IfExp c a b pos) (tT cls W (ifT fc fa fb)) := by
  refine ⟨fun wh pins s σ H Q I h => ?_⟩
  obtain ⟨B, S, ρ, g, I0, h⟩ := h
  unfold ifT at h
  refine PyProof.Rows.isTrue_IfExp ?_
  refine thn (hc.run pins s σ H (fun k H1 => if k = true then tT cls W fa σ H1 Q else tT cls W fb σ H1 Q) I ⟨B, S, ρ, g, I0, ?_⟩) fun k s1 ⟨H1, I1, q1⟩ => ?_
  · cases ec : fc ρ g with
    | bad => rw [ec] at h; exact h
    | ex n g1 => rw [ec] at h; exact h
    | ok k g1 =>
      rw [ec] at h
      simp only [R.bind_ok] at h
      intro H1 S1 I1 e1
      cases k with
      | true => exact ⟨B, S1, ρ, g1, I1, TO_gr e1 h⟩
      | false => exact ⟨B, S1, ρ, g1, I1, TO_gr e1 h⟩
  · cases k with
    | true => exact ha.run pins s1 σ H1 Q I1 q1
    | false => exact hb.run pins s1 σ H1 Q I1 q1
end
end DL

set_option Elab.async false
set_option linter.all false
set_option maxRecDepth 100000
set_option maxHeartbeats 400000
/-! The data layer, part 11: lists of new lists, made at once. -/
namespace DL
open PySem PySem.Spec PyProof.Rows L2
section
variable {B : Bs} {σ : L2.St} {H S : Hp} {ρ : Nv} {g : G}
/-- what nobody holds may be changed -/
theorem Good.updD {H0 S0 : Hp} {g0 : G} (I0 : Good B σ H0 S0 ρ g0) (I : Good B σ H S ρ g) {D : Addr} (o' : HO) (nD : H0 D = none) (sD : S D = none) (keepO : ∀ a o, H0 a = some o → (B.live = true → a ≠ B.A) → H a = some o) : Good B σ (upd H D o') S ρ g := by
  refine ⟨⟨fun a o q => ?_, fun a o q n => ?_, I.base, I.new, fun a q => ?_, I.no, ?_⟩, I.len, I.sh, I.dw, I.sw, fun j b q => ?_, I.ap, I.mxMove (Same.refl _) (fun i b h => ⟨⟨b, h⟩, rfl⟩) (fun i rows h => h) (fun j rows a' q k => ?_) fun j rows a' cs _ q k k3 x hx => ?_⟩
  · rw [upd_ne (ne_of_none q sD)]; exact I.sub _ _ q
  · have hB : B.H D = none := by
      cases z : B.H D with
      | none => rfl
      | some u => exact absurd nD (I0.there D (by rw [z]; simp))
    rw [upd_ne (ne_of_none q hB)]; exact I.keep a o q n
  · by_cases ha : a = D
    · subst ha; rw [upd_same]; simp
    · rw [upd_ne ha]; exact I.there a q
  · exact I.dr.mono (Same.refl _) fun hl => upd_ne (fun z => I0.neA nD hl z)
  · obtain ⟨a, o, h1, h2, h4, h5, h6, h7⟩ := I.ow j b q
    obtain ⟨a', o2, k1, _, _, _, k5, _⟩ := I0.ow j b q
    have ea := addr_of h1 k1
    subst ea
    have hne : a ≠ D := fun z => by rw [z, nD] at k5; cases k5
    exact ⟨a, o, h1, h2, h4, h5, by rw [upd_ne hne]; exact h6, h7⟩
  · obtain ⟨a0, o, k1, _, _, _, k5, _⟩ := I0.ow j _ q
    have ea := addr_of k k1
    subst ea
    have hne : a' ≠ D := fun z => by rw [z, nD] at k5; cases k5
    exact upd_ne hne
  · have g7 := (I.mx j rows a' cs q k k3).1.row (I.rowsAt q k k3) hx
    have hne : x ≠ D := fun z => by
      subst z
      obtain ⟨a0, o0, l1, _, l3, _, l5, _⟩ := I0.ow j _ q
      have ea := addr_of k l1
      subst ea
      have l6 := keepO a' o0 l5 l3
      rw [k3] at l6
      rw [← l6] at l5
      exact ((I0.mx j rows a' cs q k l5).1.row (I0.rowsAt q k l5) hx).2.2.2 nD
    exact ⟨upd_ne hne, g7.1⟩
/-- the rows made so far -/
structure RowsM (H1 : Hp) (D : Addr) (H S : Hp) (cs : List Addr) (rows : List (List PyData)) : Prop where
  len : cs.length = rows.length
  nd : cs.Nodup
  fr : ∀ c ∈ cs, H1 c = none ∧ c ≠ D
  at_ : ∀ (k : Nat) (c : Addr) (row : List PyData), cs[k]? = some c → rows[k]? = some row → S c = none ∧ ∃ ws, H c = some (.lst ws) ∧ Rps S ws row
theorem RowsM.row {H1 : Hp} {D : Addr} {cs : List Addr} {rows : List (List PyData)} (R : RowsM H1 D H S cs rows) {c : Addr} (hc : c ∈ cs) : S c = none ∧ ∃ ws, H c = some (.lst ws) := by
  obtain ⟨k, hk, rfl⟩ := List.getElem_of_mem hc
  have hk2 : k < rows.length := by rw [← R.len]; exact hk
  obtain ⟨h1, ws, h2, _⟩ := R.at_ k cs[k] (rows[k]) (List.getElem?_eq_getElem hk) (List.getElem?_eq_getElem hk2)
  exact ⟨h1, ws, h2⟩
theorem RowsM.gr {H1 H' S' : Hp} {D : Addr} {cs : List Addr} {rows : List (List PyData)} (R : RowsM H1 D H S cs rows) (na : ∀ c, H1 c = none → B.live = true → c ≠ B.A) (e : Gr B H S H' S') : RowsM H1 D H' S' cs rows :=
  ⟨R.len, R.nd, R.fr, fun k c row h1 h2 => by
    obtain ⟨q1, ws, q2, q3⟩ := R.at_ k c row h1 h2
    exact ⟨none_of e (by rw [q2]; simp) q1, ws, e.keep c _ q2 (na c (R.fr c (List.mem_of_getElem? h1)).1), q3.mono e.base⟩⟩
theorem RowsM.updD {H1 : Hp} {D : Addr} {cs : List Addr} {rows : List (List PyData)} {o : HO} (R : RowsM H1 D H S cs rows) : RowsM H1 D (upd H D o) S cs rows :=
  ⟨R.len, R.nd, R.fr, fun k c row h1 h2 => by
    obtain ⟨q1, ws, q2, q3⟩ := R.at_ k c row h1 h2
    exact ⟨q1, ws, by rw [upd_ne (R.fr c (List.mem_of_getElem? h1)).2]; exact q2, q3⟩⟩
theorem RowsM.snoc {H1 : Hp} {D c : Addr} {cs : List Addr} {rows : List (List PyData)} {row : List PyData} {ws : List V} (R : RowsM H1 D H S cs rows) (h1 : c ∉ cs) (h2 : H1 c = none) (h3 : c ≠ D) (h4 : S c = none) (h5 : H c = some (.lst ws)) (h6 : Rps S ws row) : RowsM H1 D H S (cs ++ [c]) (rows ++ [row]) := by
  refine ⟨by rw [List.length_append, List.length_append, R.len]; rfl, ?_, fun x hx => ?_, fun k x r e1 e2 => ?_⟩
  · rw [List.nodup_append]
    exact ⟨R.nd, by simp, fun x hx y hy z => h1 (by rw [← List.mem_singleton.mp hy, ← z]; exact hx)⟩
  · rcases List.mem_append.mp hx with z | z
    · exact R.fr x z
    · rw [List.mem_singleton.mp z]; exact ⟨h2, h3⟩
  · by_cases hk : k < cs.length
    · rw [List.getElem?_append_left hk] at e1
      rw [List.getElem?_append_left (by rw [← R.len]; exact hk)] at e2
      exact R.at_ k x r e1 e2
    · rw [List.getElem?_append_right (by omega)] at e1
      rw [List.getElem?_append_right (by rw [← R.len]; omega)] at e2
      obtain rfl := List.mem_singleton.mp (List.mem_of_getElem? e1)
      obtain rfl := List.mem_singleton.mp (List.mem_of_getElem? e2)
      exact ⟨h4, ws, h5, h6⟩
end
def compM (tg : Tg) (elt : Ow) : List PyData → Nv → G → R (List (List PyData))
  | [], _, g => .ok [] g
  | d :: ds, ρ, g => match tg d ρ with
    | none => .bad
    | some ρ1 => match elt ρ1 g with
      | .ok (.lst x) g2 => (compM tg elt ds ρ g2).bind fun xs g3 => .ok (x :: xs) g3
      | _ => .bad
theorem compM_noex {tg : Tg} {elt : Ow} : ∀ {ds : List PyData} {ρ : Nv} {g g' : G} {n : Nat}, compM tg elt ds ρ g ≠ .ex n g'
  | [], ρ, g, g', n, h => by cases h
  | d :: ds, ρ, g, g', n, h => by
    unfold compM at h
    split at h
    · cases h
    · split at h
      · rename_i x g2 _
        cases e : compM tg elt ds ρ g2 with
        | ok a g3 => rw [e] at h; cases h
        | ex n2 g3 => exact compM_noex e
        | bad => rw [e] at h; cases h
      · cases h
def finM (i : Nat) (ρ : Nv) : R (List (List PyData)) → SR
  | .ok rows g => .nx (ρ.set i (.ow (.mat rows))) g
  | _ => .bad
/-- x = [a new list for ..], x a list of lists of one's own -/
def lcMS (i : Nat) (fi : Ar) (own : List Nat) (tg : Tg) (elt : Ow) : Sm := fun ρ g => match fi ρ g with
  | .ok ds g1 => if ds.length ≤ big then finM i ρ (compM tg elt ds (wipeD ρ own) g1) else .bad
  | _ => .bad
section
variable {X : Cx} {cls : Nat → Value} {W : WX} {pos : Pos} {a : Expr} {fa : Ex}
@[simp] def listO (f : Ex) : Ow := fun ρ g => (f ρ g).bind fun d g1 => match d with
  | .list ds => .ok (.lst ds) g1
  | .tuple ds => .ok (.lst ds) g1
  | _ => .bad
theorem po_list {p : Pos} (hm : X.mg "list" = none) (ha : PE X a (tE cls W fa)) (hg : Gl X "list" := by rfl) (hs : starEach [a] X.env = (false, eval a X.env) :: starEach [] X.env := by rfl) (hpl : (backTo pos (starEach [] X.env)).any (·.1) = false := by rfl) : PE X (.Call (.Name "list" p) [a] [] pos) (tO cls W (listO fa)) :=
  PE_imp (pe_callTy call_list_of hg hm PyProof.Rows.boot_list (pa_cons ha pa_nil hs) (by decide) (by decide) hs hpl) fun σ H Q ⟨B, S, ρ, g, I, h⟩ => by
    unfold listO at h
    refine ⟨B, S, ρ, g, I, ?_⟩
    cases ea : fa ρ g with
    | bad => rw [ea] at h; exact h
    | ex n g1 => rw [ea] at h; exact h
    | ok x g1 =>
      rw [ea] at h
      simp only [R.bind_ok] at h
      intro v H1 S1 I1 e1 r1
      cases r1 with
      | @lst b xs ds hb q =>
        refine ⟨_, _, rfl, .inl (.of (I1.sub _ _ hb)), fun l hl => ?_⟩
        obtain ⟨I2, e2⟩ := I1.allocO (o := .lst xs) hl
        exact h l _ _ _ I2 (e1.trans e2) (I1.stay hl) (none_back e1 hl) upd_same (.lst q)
      | @tup b xs ds hb q =>
        refine ⟨_, _, rfl, .inr (.of (I1.sub _ _ hb)), fun l hl => ?_⟩
        obtain ⟨I2, e2⟩ := I1.allocO (o := .lst xs) hl
        exact h l _ _ _ I2 (e1.trans e2) (I1.stay hl) (none_back e1 hl) upd_same (.lst q)
      | _ => exact False.elim h
theorem lcM_of {ts own : List Nat} {fi : Ar} {tg : Tg} {elt : Ow} {i : Nat} {Ds : Ends} (hts : ∀ i ∈ ts, i ∈ own) (σ : L2.St) (H : Hp) (h : tS cls W (lcMS i fi own tg elt) Ds σ H) :
    tLc (tI cls W fi) (tG ts tg) (tT cls W0 yesT) (tO cls W0 elt) own σ H fun x H1 => Ds.nx (σ.set i (some x)) H1 := by
  obtain ⟨B, S, ρ, g, I, h⟩ := h
  unfold lcMS at h
  refine ⟨B, S, ρ, g, I, ?_⟩
  cases ei : fi ρ g with
  | bad => rw [ei] at h; exact False.elim h
  | ex n g1 => rw [ei] at h; exact False.elim h
  | ok ds g1 =>
    rw [ei] at h
    simp only at h
    by_cases hz : ds.length ≤ big
    · rw [if_pos hz] at h
      intro J H1 S1 I1 e1 it D hD
      have nD : H D = none := none_back e1 hD
      have hDA : B.live = true → D ≠ B.A := fun hl z => I1.neA hD hl z.symm
      have na : ∀ c, H1 c = none → B.live = true → c ≠ B.A := fun c hc hl z => I1.neA hc hl z.symm
      obtain ⟨I2, e2⟩ := I1.allocO (o := .lst []) hD
      refine ⟨fun k m H' => k + m = ds.length ∧ ∃ S' g' cs rows, Good B σ H' S' ρ g' ∧ Gr B (upd H1 D (.lst [])) S1 (upd H' D (.lst [])) S' ∧ H' D = some (.lst (cs.map V.ref)) ∧ S' D = none ∧ RowsM H1 D H' S' cs rows ∧ cs.length ≤ k ∧
        SO cls W B S Ds (finM i ρ ((compM tg elt (ds.drop k) (wipeD ρ own) g').bind fun ys g2 => .ok (rows ++ ys) g2)), ?_, ?_⟩
      · refine ⟨ds.length, by omega, S1, g1, [], [], I2, by rw [upd_upd]; exact .refl, upd_same, I1.stay hD, ⟨rfl, List.nodup_nil, (fun _ z => nomatch z), (fun k c row z => nomatch z)⟩, Nat.le_refl _, ?_⟩
        have : (compM tg elt (ds.drop 0) (wipeD ρ own) g1).bind (fun ys g2 => R.ok ([] ++ ys) g2) = compM tg elt ds (wipeD ρ own) g1 := by
          rw [List.drop_zero]
          cases compM tg elt ds (wipeD ρ own) g1 <;> rfl
        rw [this]
        exact h
      · rintro k m H' ⟨him, S', g', cs, rows, I3, e3, hv, sD, RM, hvl, h3⟩
        have e3' : Same S1 S' := e3.base
        by_cases hk : k < ds.length
        · refine .inr ⟨it.go k H' hk (e3'.trans I3.sub), fun H'' => ∃ m', m' < m ∧ (k + 1 + m' = ds.length ∧ ∃ S' g' cs rows, Good B σ H'' S' ρ g' ∧ Gr B (upd H1 D (.lst [])) S1 (upd H'' D (.lst [])) S' ∧ H'' D = some (.lst (cs.map V.ref)) ∧ S' D = none ∧ RowsM H1 D H'' S' cs rows ∧ cs.length ≤ k + 1 ∧
            SO cls W B S Ds (finM i ρ ((compM tg elt (ds.drop (k + 1)) (wipeD ρ own) g').bind fun ys g2 => .ok (rows ++ ys) g2))), fun H'' z => z, fun x H4 hy => ?_⟩
          obtain ⟨d, S4, hd, gr1, rd⟩ := it.yld k H' S' x H4 hk e3' I3.sub hy
          obtain ⟨I4, e4⟩ := gr1.good I3
          have hdrop : ds.drop k = d :: ds.drop (k + 1) := by
            rw [List.drop_eq_getElem_cons hk]
            rw [List.getElem?_eq_getElem hk] at hd
            rw [Option.some.inj hd]
          rw [hdrop] at h3
          unfold compM at h3
          have step : ∀ {H5 S5 : Hp}, Gr B H' S' H5 S5 → Gr B (upd H1 D (.lst [])) S1 (upd H5 D (.lst [])) S5 := fun {H5 S5} e => by
            refine e3.trans ⟨fun a o q n => ?_, e.base, fun a q => ?_, fun a q => ?_⟩
            · by_cases ha : a = D
              · subst ha; rw [upd_same] at q ⊢; exact q
              · rw [upd_ne ha] at q ⊢; exact e.keep a o q n
            · rcases e.new a q with z | z
              · exact .inl z
              · by_cases ha : a = D
                · subst ha; rw [hv] at z; cases z
                · exact .inr (by rw [upd_ne ha]; exact z)
            · by_cases ha : a = D
              · subst ha; rw [upd_same]; simp
              · rw [upd_ne ha] at q ⊢; exact e.there a q
          cases et : tg d (wipeD ρ own) with
          | none => simp only [et, R.bind_bad] at h3; exact False.elim h3
          | some ρ1 =>
            simp only [et] at h3
            refine ⟨B, S4, wipeD ρ own, g', d, ρ1, I4.wiped own, rd, et, fun σ1 I5 ch => ⟨by rw [ch.wipe hts]; exact (Chg.wipe (ts := own) ⟨by rw [wipe_length], fun j hj => wipe_out hj⟩ fun _ z => z), B, S4, ρ1, g', I5, ?_⟩⟩
            intro H6 S6 I6 e6
            have I6' := (I4.back I6 e6)
            have e46 : Gr B H' S' H6 S6 := e4.trans e6
            rw [if_pos rfl]
            refine ⟨B, S6, ρ1, g', I6, ?_⟩
            cases ee : elt ρ1 g' with
            | bad => simp only [ee, R.bind_bad] at h3; exact False.elim h3
            | ex n g6 => simp only [ee, R.bind_bad] at h3; exact False.elim h3
            | ok y g6 =>
              cases y with
              | lst row =>
                simp only [ee] at h3
                intro c o H7 S7 I7 e7 n1 n2 ho r7
                have I7' := I6'.back I7 e7
                have e77 : Gr B H' S' H7 S7 := e46.trans e7
                have hD7 := e77.keep D _ hv hDA
                have sD7 := none_of e77 (by rw [hv]; simp) sD
                have cn : ∀ x, H' x ≠ none → x ≠ c := fun x hx z => e46.there x hx (by rw [z]; exact n2)
                have cD : c ≠ D := fun z => cn D (by rw [hv]; simp) z.symm
                have c1 : H1 c = none := by
                  cases q : H1 c with
                  | none => rfl
                  | some u =>
                    have z := e3.there c (by rw [upd_ne cD, q]; simp)
                    rw [upd_ne cD] at z
                    exact absurd rfl (cn c z)
                have cc : c ∉ cs := fun z => by
                  obtain ⟨_, ws, q⟩ := RM.row z
                  exact cn c (by rw [q]; simp) rfl
                cases r7 with
                | @lst _ ws r7 =>
                  refine ⟨cs.map V.ref, hD7, by rw [List.length_map]; exact big_lt (by omega), m - 1, by omega, by omega, S7, g6, cs ++ [c], rows ++ [row], ?_, by rw [upd_upd]; exact step e77, by rw [upd_same, List.map_append]; rfl, sD7, ((RM.gr na e77).snoc cc c1 cD n1 ho r7).updD, by rw [List.length_append]; exact Nat.succ_le_succ hvl, ?_⟩
                  · refine I.updD I7' _ nD sD7 fun a o q n => ?_
                    have ha : a ≠ D := ne_of_none q nD
                    have z := e3.keep a o (by rw [upd_ne ha]; exact e1.keep a o q n) n
                    rw [upd_ne ha] at z
                    exact e77.keep a o z n
                  · cases eR : compM tg elt (ds.drop (k + 1)) (wipeD ρ own) g6 with
                    | bad => rw [eR] at h3; exact h3
                    | ex n g7 => exact absurd eR compM_noex
                    | ok ys g7 =>
                      rw [eR] at h3
                      simp only [R.bind_ok] at h3 ⊢
                      rw [List.append_assoc]
                      exact h3
              | _ => simp only [ee, R.bind_bad] at h3; exact False.elim h3
        · have hdrop : ds.drop k = [] := List.drop_eq_nil_of_le (by omega)
          rw [hdrop] at h3
          simp only [compM, R.bind_ok, List.append_nil] at h3
          refine .inl ⟨it.stop k H' (by omega) (e3'.trans I3.sub), ?_⟩
          have keepO : ∀ a o, H a = some o → (B.live = true → a ≠ B.A) → H' a = some o := fun a o q n => by
            have ha : a ≠ D := ne_of_none q nD
            have z := e3.keep a o (by rw [upd_ne ha]; exact e1.keep a o q n) n
            rw [upd_ne ha] at z
            exact z
          have J0 := I.updD I3 (D := D) (.lst []) nD sD keepO
          have gr : Gr B H S (upd H' D (.lst [])) S' := e1.trans (e2.trans (by
            refine ⟨fun a o q n => e3.keep a o q n, e3.base, fun a q => e3.new a q, fun a q => e3.there a q⟩))
          refine h3 _ _ _ ?_ (e1.base.trans e3.base)
          by_cases hil : i < ρ.length
          · have K := I.setOw J0 gr (i := i) (b := .lst []) (a := D) sD nD upd_same (.lst .nil) (fun _ z => nomatch z)
            have hiσ : i < σ.length := by have := I.len; omega
            have at1 : ∀ {j : Nat}, j ≠ i → (σ.set i (some (V.ref D)))[j]? = σ[j]? := fun hj => List.getElem?_set_ne (Ne.symm hj)
            have at2 : ∀ {j : Nat}, j ≠ i → (ρ.set i (Sl.ow (.lst [])))[j]? = ρ[j]? := fun hj => List.getElem?_set_ne (Ne.symm hj)
            have q := K.mutR (i := i) (b := .lst []) (a := D) (rows' := rows) (cs' := cs) (List.getElem?_set_self hil) (List.getElem?_set_self hiσ) H' (fun x hx _ => (upd_ne hx).symm) hv RM.len RM.nd (fun z => (RM.fr D z).2 rfl)
              (fun k c row q1 q2 => (RM.at_ k c row q1 q2).2)
              (fun c hc => ⟨(RM.row hc).1, fun hl => na c (RM.fr c hc).1 hl, by
                cases q : B.H c with
                | none => rfl
                | some u => exact absurd (RM.fr c hc).1 (I1.there c (by rw [q]; simp))⟩)
              (fun j b a' hj q1 q2 z => by
                rw [at2 hj] at q1
                rw [at1 hj] at q2
                obtain ⟨x, o, p1, p2, p3, p4, p5, p6⟩ := I1.ow j b q1
                have e := addr_of q2 p1
                subst e
                rw [(RM.fr _ z).1] at p5
                cases p5)
              (fun j rows2 a2 cs2 hj q1 q2 q3 c hc z => by
                rw [at2 hj] at q1
                rw [at1 hj] at q2
                obtain ⟨x, o, p1, p2, p3, p4, p5, p6⟩ := I.ow j _ q1
                have e := addr_of q2 p1
                subst e
                have ha : a2 ≠ D := ne_of_none p5 nD
                rw [upd_ne ha, keepO a2 o p5 p3] at q3
                rw [q3] at p5
                have w := ((I.mx j rows2 a2 cs2 q1 q2 p5).1.row (I.rowsAt q1 q2 p5) hc).2.2.2
                exact e1.there c w (RM.fr c z).1)
            rw [List.set_set] at q
            exact q
          · have s1 : ρ.set i (.ow (.mat rows)) = ρ := List.set_eq_of_length_le (by omega)
            have s2 : σ.set i (some (V.ref D)) = σ := List.set_eq_of_length_le (by have := I.len; omega)
            rw [s1, s2]
            exact I3
    · rw [if_neg hz] at h
      exact False.elim h
/-- x = [a new list for ..], x a local that gets cells -/
theorem psd_setM (i : Nat) {y : Str} {py : Pos} {elt tg iter : Expr} {scope : Scope} {own : List (Str × Nat)} {lpos : Pos} {ts : List Nat} {fi : Ar} {ft : Tg} {fe : Ow} (hc : X.calm = true) (hN : X.N.Nodup)
    (hsw : swapsWith (.ListComp elt [⟨tg, iter, [], 0⟩] scope lpos) (some (.Name y py)) pos.line X.env = pure true) (hi : PI X tg iter (tI cls W fi)) (ok : BlkOk X.N X.env.scope scope own)
    (hg : ∀ (s : Shared) (H : Hp) (C : Addr) (cl : List (Str × Addr)) (fp : List Addr), PG (X.blk s H scope (compEnvC scope cl C X.env) fp) tg (tG ts ft))
    (he : ∀ (s : Shared) (H : Hp) (C : Addr) (cl : List (Str × Addr)) (fp : List Addr), PE (X.blk s H scope (compEnvC scope cl C X.env) fp) elt (tO cls W0 fe)) (hts : ∀ i ∈ ts, i ∈ own.map (·.2) := by decide) (hy : X.N[i]? = some y := by rfl) (hyl : X.env.scope.names.lookup y = some .local := by rfl)
    (hs : ∀ x, foldedSetIterable iter X.env x = pure x := by intro _; rfl) :
    PS X (.Assign [.Name y py] (.ListComp elt [⟨tg, iter, [], 0⟩] scope lpos) pos) (tS cls W (lcMS i fi (own.map (·.2)) ft fe)) :=
  PS_imp (ps_setLc hc hN hy hyl hsw hi ok hg (fun _ _ _ _ _ => ptsd_nil (cls := cls) (W := W0)) he hs) fun D σ H h => lcM_of hts σ H h
end
end DL

set_option Elab.async false
set_option linter.all false
set_option maxRecDepth 100000
set_option maxHeartbeats 400000
/-! The data layer, part 12: comprehensions with two fors. -/
namespace DL
open PySem PySem.Spec PyProof.Rows L2
section
variable {B : Bs} {σ σ0 : L2.St} {H S : Hp} {ρ ρ0 : Nv} {g : G}
theorem upd_id {H : Hp} {a : Addr} {o : HO} (h : H a = some o) : upd H a o = H := by
  funext x
  by_cases e : x = a
  · subst e; rw [upd_same, h]
  · rw [upd_ne e]
/-- what nobody holds may be changed: the things of one's own are those of an earlier state -/
theorem Good.updE {H0 S0 : Hp} {g0 : G} (I0 : Good B σ0 H0 S0 ρ0 g0) (I : Good B σ H S ρ g) {D : Addr} (o' : HO) (nD : H0 D = none) (sD : S D = none) (keepO : ∀ a o, H0 a = some o → (B.live = true → a ≠ B.A) → H a = some o)
    (same : ∀ (j : Nat) (b : Ob), ρ[j]? = some (.ow b) → ρ0[j]? = some (.ow b) ∧ σ[j]? = σ0[j]?) : Good B σ (upd H D o') S ρ g := by
  have k1' : ∀ (j : Nat) (b : Ob) (a : Addr), ρ[j]? = some (.ow b) → σ[j]? = some (some (.ref a)) → ∃ o, H0 a = some o ∧ (B.live = true → a ≠ B.A) ∧ ρ0[j]? = some (.ow b) ∧ σ0[j]? = some (some (.ref a)) := fun j b a q k => by
    obtain ⟨s1, s2⟩ := same j b q
    obtain ⟨a', o2, k1, _, k3, _, k5, _⟩ := I0.ow j b s1
    rw [s2] at k
    have ea := addr_of k k1
    subst ea
    exact ⟨o2, k5, k3, s1, k1⟩
  refine ⟨⟨fun a o q => ?_, fun a o q n => ?_, I.base, I.new, fun a q => ?_, I.no, ?_⟩, I.len, I.sh, I.dw, I.sw, fun j b q => ?_, I.ap, I.mxMove (Same.refl _) (fun i b h => ⟨⟨b, h⟩, rfl⟩) (fun i rows h => h) (fun j rows a' q k => ?_) fun j rows a' cs _ q k k3 x hx => ?_⟩
  · rw [upd_ne (ne_of_none q sD)]; exact I.sub _ _ q
  · have hB : B.H D = none := by
      cases z : B.H D with
      | none => rfl
      | some u => exact absurd nD (I0.there D (by rw [z]; simp))
    rw [upd_ne (ne_of_none q hB)]; exact I.keep a o q n
  · by_cases ha : a = D
    · subst ha; rw [upd_same]; simp
    · rw [upd_ne ha]; exact I.there a q
  · exact I.dr.mono (Same.refl _) fun hl => upd_ne (fun z => I0.neA nD hl z)
  · obtain ⟨a, o, h1, h2, h4, h5, h6, h7⟩ := I.ow j b q
    obtain ⟨o2, k5, _⟩ := k1' j b a q h1
    have hne : a ≠ D := fun z => by rw [z, nD] at k5; cases k5
    exact ⟨a, o, h1, h2, h4, h5, by rw [upd_ne hne]; exact h6, h7⟩
  · obtain ⟨o2, k5, _⟩ := k1' j _ a' q k
    have hne : a' ≠ D := fun z => by rw [z, nD] at k5; cases k5
    exact upd_ne hne
  · have g7 := (I.mx j rows a' cs q k k3).1.row (I.rowsAt q k k3) hx
    have hne : x ≠ D := fun z => by
      subst z
      obtain ⟨o2, l5, l3, q0, k0⟩ := k1' j _ a' q k
      have l6 := keepO a' o2 l5 l3
      rw [k3] at l6
      rw [← l6] at l5
      exact ((I0.mx j rows a' cs q0 k0 l5).1.row (I0.rowsAt q0 k0 l5) hx).2.2.2 nD
    exact ⟨upd_ne hne, g7.1⟩
end
/-- a target that puts no thing of one's own anywhere -/
def ShT (ts : List Nat) (f : Tg) : Prop := ∀ d ρ ρ', f d ρ = some ρ' → ∀ (j : Nat) (b : Ob), ρ'[j]? = some (.ow b) → j ∉ ts ∧ ρ[j]? = some (.ow b)
theorem shT_name (i : Nat) : ShT [i] (nameT i) := fun d ρ ρ' h j b hb => by
  unfold nameT at h
  cases h
  by_cases hj : j = i
  · subst hj
    by_cases hl : j < ρ.length
    · rw [List.getElem?_set_self hl] at hb; cases hb
    · rw [List.getElem?_eq_none (by rw [List.length_set]; omega)] at hb; cases hb
  · rw [List.getElem?_set_ne (Ne.symm hj)] at hb
    exact ⟨fun z => hj (List.mem_singleton.mp z), hb⟩
def compD2 (tg : Tg) (cond : Te) (fi1 : Ar) (own1 : List Nat) (tg1 : Tg) (cond1 : Te) (elt : Ex) : List PyData → Nv → G → R (List PyData)
  | [], _, g => .ok [] g
  | d :: ds, ρ, g => match tg d ρ with
    | none => .bad
    | some ρ1 => match cond ρ1 g with
      | .ok true g1 => match fi1 ρ1 g1 with
        | .ok es g2 => if es.length ≤ big then (compD tg1 cond1 elt es (wipeD ρ1 own1) g2).bind fun xs g3 => (compD2 tg cond fi1 own1 tg1 cond1 elt ds ρ g3).bind fun ys g4 => .ok (xs ++ ys) g4 else .bad
        | _ => .bad
      | .ok false g1 => compD2 tg cond fi1 own1 tg1 cond1 elt ds ρ g1
      | _ => .bad
theorem compD2_noex {tg : Tg} {cond : Te} {fi1 : Ar} {own1 : List Nat} {tg1 : Tg} {cond1 : Te} {elt : Ex} : ∀ {ds : List PyData} {ρ : Nv} {g g' : G} {n : Nat}, compD2 tg cond fi1 own1 tg1 cond1 elt ds ρ g ≠ .ex n g'
  | [], ρ, g, g', n, h => by cases h
  | d :: ds, ρ, g, g', n, h => by
    unfold compD2 at h
    split at h
    · cases h
    · split at h
      · split at h
        · rename_i es g2 _
          split at h
          · cases e : compD tg1 cond1 elt es (wipeD _ own1) g2 with
            | ok a g3 =>
              rw [e] at h
              simp only [R.bind_ok] at h
              cases e2 : compD2 tg cond fi1 own1 tg1 cond1 elt ds ρ g3 with
              | ok a g4 => rw [e2] at h; cases h
              | ex n2 g4 => exact compD2_noex e2
              | bad => rw [e2] at h; cases h
            | ex n2 g3 => exact compD_noex e
            | bad => rw [e] at h; cases h
          · cases h
        · cases h
      · exact compD2_noex h
      · cases h
def fin2 : R (List PyData) → R Ob
  | .ok xs g => if xs.length ≤ big then .ok (.lst xs) g else .bad
  | _ => .bad
def lcO2 (fi : Ar) (own : List Nat) (tg : Tg) (cond : Te) (fi1 : Ar) (own1 : List Nat) (tg1 : Tg) (cond1 : Te) (elt : Ex) : Ow := fun ρ g => (fi ρ g).bind fun ds g1 => if ds.length ≤ big then fin2 (compD2 tg cond fi1 own1 tg1 cond1 elt ds (wipeD ρ own) g1) else .bad
section
variable {X : Cx} {cls : Nat → Value} {W : WX} {pos : Pos}
theorem lc2_of {ts ts1 own own1 : List Nat} {fi fi1 : Ar} {tg tg1 : Tg} {cond cond1 : Te} {elt : Ex} (hts : ∀ i ∈ ts, i ∈ own) (hts1 : ∀ i ∈ ts1, i ∈ own1) (hsh : ShT ts tg) (σ : L2.St) (H : Hp) (Q : VK) (h : tO cls W (lcO2 fi own tg cond fi1 own1 tg1 cond1 elt) σ H Q) :
    tLc2 (tI cls W fi) (tG ts tg) (tT cls W0 cond) (tI cls W0 fi1) (tG ts1 tg1) (tT cls W0 cond1) (tE cls W0 elt) own own1 σ H Q := by
  obtain ⟨B, S, ρ, g, I, h⟩ := h
  unfold lcO2 at h
  refine ⟨B, S, ρ, g, I, ?_⟩
  cases ei : fi ρ g with
  | bad => rw [ei] at h; exact h
  | ex n g1 => rw [ei] at h; exact h
  | ok ds g1 =>
    rw [ei] at h
    simp only [R.bind_ok] at h
    by_cases hz : ds.length ≤ big
    · rw [if_pos hz] at h
      intro J H1 S1 I1 e1 it D hD
      have nD : H D = none := none_back e1 hD
      have hDA : B.live = true → D ≠ B.A := fun hl z => I1.neA hD hl z.symm
      obtain ⟨I2, e2⟩ := I1.allocO (o := .lst []) hD
      -- growth beside D
      have stepD : ∀ {H' S' H5 S5 : Hp} {vs : List V}, H' D = some (.lst vs) → Gr B (upd H1 D (.lst [])) S1 (upd H' D (.lst [])) S' → Gr B H' S' H5 S5 → Gr B (upd H1 D (.lst [])) S1 (upd H5 D (.lst [])) S5 := fun {H' S' H5 S5 vs} hv e3 e => by
        refine e3.trans ⟨fun a o q n => ?_, e.base, fun a q => ?_, fun a q => ?_⟩
        · by_cases ha : a = D
          · subst ha; rw [upd_same] at q ⊢; exact q
          · rw [upd_ne ha] at q ⊢; exact e.keep a o q n
        · rcases e.new a q with z | z
          · exact .inl z
          · by_cases ha : a = D
            · subst ha; rw [hv] at z; cases z
            · exact .inr (by rw [upd_ne ha]; exact z)
        · by_cases ha : a = D
          · subst ha; rw [upd_same]; simp
          · rw [upd_ne ha] at q ⊢; exact e.there a q
      have keepO : ∀ {H' S' : Hp}, Gr B (upd H1 D (.lst [])) S1 (upd H' D (.lst [])) S' → ∀ a o, H a = some o → (B.live = true → a ≠ B.A) → H' a = some o := fun {H' S'} e3 a o q n => by
        have ha : a ≠ D := ne_of_none q nD
        have z := e3.keep a o (by rw [upd_ne ha]; exact e1.keep a o q n) n
        rw [upd_ne ha] at z
        exact z
      have grO : ∀ {H' S' : Hp}, Gr B (upd H1 D (.lst [])) S1 (upd H' D (.lst [])) S' → Gr B H S (upd H' D (.lst [])) S' := fun e3 => e1.trans (e2.trans e3)
      refine ⟨fun i m H' => i + m = ds.length ∧ ∃ S' g' vs xs, Good B σ H' S' ρ g' ∧ Gr B (upd H1 D (.lst [])) S1 (upd H' D (.lst [])) S' ∧ H' D = some (.lst vs) ∧ S' D = none ∧ Rps S' vs xs ∧
        OO cls W B σ H S ρ Q (fin2 ((compD2 tg cond fi1 own1 tg1 cond1 elt (ds.drop i) (wipeD ρ own) g').bind fun ys g2 => .ok (xs ++ ys) g2)), ?_, ?_⟩
      · refine ⟨ds.length, by omega, S1, g1, [], [], I2, by rw [upd_upd]; exact .refl, upd_same, I1.stay hD, .nil, ?_⟩
        have : (compD2 tg cond fi1 own1 tg1 cond1 elt (ds.drop 0) (wipeD ρ own) g1).bind (fun ys g2 => R.ok ([] ++ ys) g2) = compD2 tg cond fi1 own1 tg1 cond1 elt ds (wipeD ρ own) g1 := by
          rw [List.drop_zero]
          cases compD2 tg cond fi1 own1 tg1 cond1 elt ds (wipeD ρ own) g1 <;> rfl
        rw [this]
        exact h
      · rintro i m H' ⟨him, S', g', vs, xs, I3, e3, hv, sD, rv, h3⟩
        have e3' : Same S1 S' := e3.base
        by_cases hi : i < ds.length
        · refine .inr ⟨it.go i H' hi (e3'.trans I3.sub), fun H'' => ∃ m', m' < m ∧ (i + 1 + m' = ds.length ∧ ∃ S' g' vs xs, Good B σ H'' S' ρ g' ∧ Gr B (upd H1 D (.lst [])) S1 (upd H'' D (.lst [])) S' ∧ H'' D = some (.lst vs) ∧ S' D = none ∧ Rps S' vs xs ∧
            OO cls W B σ H S ρ Q (fin2 ((compD2 tg cond fi1 own1 tg1 cond1 elt (ds.drop (i + 1)) (wipeD ρ own) g').bind fun ys g2 => .ok (xs ++ ys) g2))), fun H'' z => z, fun x H4 hy => ?_⟩
          obtain ⟨d, S4, hd, gr1, rd⟩ := it.yld i H' S' x H4 hi e3' I3.sub hy
          obtain ⟨I4, e4⟩ := gr1.good I3
          have hdrop : ds.drop i = d :: ds.drop (i + 1) := by
            rw [List.drop_eq_getElem_cons hi]
            rw [List.getElem?_eq_getElem hi] at hd
            rw [Option.some.inj hd]
          rw [hdrop] at h3
          unfold compD2 at h3
          cases et : tg d (wipeD ρ own) with
          | none => simp only [et, R.bind_bad, fin2] at h3; exact False.elim h3
          | some ρ1 =>
            simp only [et] at h3
            refine ⟨B, S4, wipeD ρ own, g', d, ρ1, I4.wiped own, rd, et, fun σ1 I5 ch => ⟨by rw [ch.wipe hts]; exact (Chg.wipe (ts := own) ⟨by rw [wipe_length], fun j hj => wipe_out hj⟩ fun _ z => z), B, S4, ρ1, g', I5, ?_⟩⟩
            -- the things of one's own behind the target are those ahead of it
            have same1 : ∀ (j : Nat) (b : Ob), ρ1[j]? = some (.ow b) → (wipeD ρ own)[j]? = some (.ow b) ∧ σ1[j]? = (wipe σ own)[j]? := fun j b q => by
              obtain ⟨q1, q2⟩ := hsh d _ _ et j b q
              exact ⟨q2, ch.out j q1⟩
            cases ec : cond ρ1 g' with
            | bad => simp only [ec, R.bind_bad, fin2] at h3; exact False.elim h3
            | ex n g5 => simp only [ec, R.bind_bad, fin2] at h3; exact False.elim h3
            | ok b g5 =>
              intro H6 S6 I6 e6
              have I6' := (I4.back I6 e6)
              have e46 : Gr B H' S' H6 S6 := e4.trans e6
              cases b with
              | false =>
                rw [if_neg Bool.false_ne_true]
                simp only [ec] at h3
                exact ⟨m - 1, by omega, by omega, S6, g5, vs, xs, I6', stepD hv e3 e46, e46.keep D _ hv hDA, none_of e46 (by rw [hv]; simp) sD, rv.mono e46.base, h3⟩
              | true =>
                rw [if_pos rfl]
                simp only [ec] at h3
                refine ⟨B, S6, ρ1, g5, I6, ?_⟩
                cases ef : fi1 ρ1 g5 with
                | bad => simp only [ef, R.bind_bad, fin2] at h3; exact False.elim h3
                | ex n g6 => simp only [ef, R.bind_bad, fin2] at h3; exact False.elim h3
                | ok es g6 =>
                  simp only [ef] at h3
                  by_cases hes : es.length ≤ big
                  · rw [if_pos hes] at h3
                    intro J1 H7 S7 I7 e7 it1
                    have e47 := e46.trans e7
                    have h7D := e47.keep D _ hv hDA
                    have s7D := none_of e47 (by rw [hv]; simp) sD
                    refine ⟨fun j k H'' => j + k = es.length ∧ ∃ S'' g'' ws zs, Good B σ1 H'' S'' ρ1 g'' ∧ Gr B (upd H1 D (.lst [])) S1 (upd H'' D (.lst [])) S'' ∧ Same S7 S'' ∧ H'' D = some (.lst ws) ∧ S'' D = none ∧ Rps S'' ws zs ∧
                      OO cls W B σ H S ρ Q (fin2 ((compD tg1 cond1 elt (es.drop j) (wipeD ρ1 own1) g'').bind fun ys g3 => (compD2 tg cond fi1 own1 tg1 cond1 elt (ds.drop (i + 1)) (wipeD ρ own) g3).bind fun us g4 => .ok (zs ++ (ys ++ us)) g4)), ?_, ?_⟩
                    · refine ⟨es.length, by omega, S7, g6, vs, xs, I7, stepD hv e3 e47, Same.refl _, h7D, s7D, rv.mono e47.base, ?_⟩
                      rw [List.drop_zero]
                      have : ((compD tg1 cond1 elt es (wipeD ρ1 own1) g6).bind fun xs_1 g3 => (compD2 tg cond fi1 own1 tg1 cond1 elt (ds.drop (i + 1)) (wipeD ρ own) g3).bind fun ys g4 => R.ok (xs_1 ++ ys) g4).bind (fun ys g2 => R.ok (xs ++ ys) g2) = (compD tg1 cond1 elt es (wipeD ρ1 own1) g6).bind fun ys g3 => (compD2 tg cond fi1 own1 tg1 cond1 elt (ds.drop (i + 1)) (wipeD ρ own) g3).bind fun us g4 => R.ok (xs ++ (ys ++ us)) g4 := by
                        cases compD tg1 cond1 elt es (wipeD ρ1 own1) g6 with
                        | ok a g3 =>
                          simp only [R.bind_ok]
                          cases compD2 tg cond fi1 own1 tg1 cond1 elt (ds.drop (i + 1)) (wipeD ρ own) g3 <;> rfl
                        | ex n g3 => rfl
                        | bad => rfl
                      rw [this] at h3
                      exact h3
                    · rintro j k H'' ⟨hjk, S'', g'', ws, zs, J3, f3, s73, hw, tD, rw', h4⟩
                      by_cases hj : j < es.length
                      · refine .inr ⟨it1.go j H'' hj (s73.trans J3.sub), fun Hn => ∃ k', k' < k ∧ (j + 1 + k' = es.length ∧ ∃ S'' g'' ws zs, Good B σ1 Hn S'' ρ1 g'' ∧ Gr B (upd H1 D (.lst [])) S1 (upd Hn D (.lst [])) S'' ∧ Same S7 S'' ∧ Hn D = some (.lst ws) ∧ S'' D = none ∧ Rps S'' ws zs ∧
                          OO cls W B σ H S ρ Q (fin2 ((compD tg1 cond1 elt (es.drop (j + 1)) (wipeD ρ1 own1) g'').bind fun ys g3 => (compD2 tg cond fi1 own1 tg1 cond1 elt (ds.drop (i + 1)) (wipeD ρ own) g3).bind fun us g4 => .ok (zs ++ (ys ++ us)) g4))), fun Hn z => z, fun x1 H9 hy1 => ?_⟩
                        obtain ⟨d1, S9, hd1, gr9, rd1⟩ := it1.yld j H'' S'' x1 H9 hj s73 J3.sub hy1
                        obtain ⟨I9, e9⟩ := gr9.good J3
                        have hdrop1 : es.drop j = d1 :: es.drop (j + 1) := by
                          rw [List.drop_eq_getElem_cons hj]
                          rw [List.getElem?_eq_getElem hj] at hd1
                          rw [Option.some.inj hd1]
                        rw [hdrop1] at h4
                        unfold compD at h4
                        cases et1 : tg1 d1 (wipeD ρ1 own1) with
                        | none => simp only [et1, R.bind_bad, fin2] at h4; exact False.elim h4
                        | some ρ2 =>
                          simp only [et1] at h4
                          refine ⟨B, S9, wipeD ρ1 own1, g'', d1, ρ2, I9.wiped own1, rd1, et1, fun σ2 I10 ch1 => ⟨by rw [ch1.wipe hts1]; exact (Chg.wipe (ts := own1) ⟨by rw [wipe_length], fun j hj => wipe_out hj⟩ fun _ z => z), B, S9, ρ2, g'', I10, ?_⟩⟩
                          cases ec1 : cond1 ρ2 g'' with
                          | bad => simp only [ec1, R.bind_bad, fin2] at h4; exact False.elim h4
                          | ex n g5 => simp only [ec1, R.bind_bad, fin2] at h4; exact False.elim h4
                          | ok b1 g11 =>
                            intro H11 S11 I11 e11
                            have I11' := I9.back I11 e11
                            have e911 : Gr B H'' S'' H11 S11 := e9.trans e11
                            cases b1 with
                            | false =>
                              rw [if_neg Bool.false_ne_true]
                              simp only [ec1] at h4
                              exact ⟨k - 1, by omega, by omega, S11, g11, ws, zs, I11', stepD hw f3 e911, s73.trans e911.base, e911.keep D _ hw hDA, none_of e911 (by rw [hw]; simp) tD, rw'.mono e911.base, h4⟩
                            | true =>
                              rw [if_pos rfl]
                              simp only [ec1] at h4
                              refine ⟨B, S11, ρ2, g11, I11, ?_⟩
                              cases ee : elt ρ2 g11 with
                              | bad => simp only [ee, R.bind_bad, fin2] at h4; exact False.elim h4
                              | ex n g6 => simp only [ee, R.bind_bad, fin2] at h4; exact False.elim h4
                              | ok y g12 =>
                                simp only [ee] at h4
                                intro v H12 S12 I12 e12 r12
                                have I12' := I11'.back I12 e12
                                have eA : Gr B H'' S'' H12 S12 := e911.trans e12
                                have hD12 := eA.keep D _ hw hDA
                                have sD12 := none_of eA (by rw [hw]; simp) tD
                                -- the rest goes well, so all is short enough
                                cases eR : compD tg1 cond1 elt (es.drop (j + 1)) (wipeD ρ1 own1) g12 with
                                | bad => rw [eR] at h4; exact False.elim h4
                                | ex n g7 => exact absurd eR compD_noex
                                | ok ys g13 =>
                                  rw [eR] at h4
                                  simp only [R.bind_ok] at h4
                                  cases eR2 : compD2 tg cond fi1 own1 tg1 cond1 elt (ds.drop (i + 1)) (wipeD ρ own) g13 with
                                  | bad => rw [eR2] at h4; exact False.elim h4
                                  | ex n g7 => exact absurd eR2 compD2_noex
                                  | ok us g14 =>
                                    rw [eR2] at h4
                                    simp only [R.bind_ok, fin2] at h4
                                    by_cases hlen : (zs ++ (y :: ys ++ us)).length ≤ big
                                    · rw [if_pos hlen] at h4
                                      have hzl : ws.length = zs.length := rw'.length.symm ▸ rfl
                                      refine ⟨ws, hD12, big_lt (by rw [List.length_append, List.length_append, List.length_cons] at hlen; omega), k - 1, by omega, by omega, S12, g12, ws ++ [v], zs ++ [y], ?_, by rw [upd_upd]; exact stepD hw f3 eA, s73.trans eA.base, upd_same, sD12, (rw'.mono eA.base).append (.cons r12 .nil), ?_⟩
                                      · exact (I.wiped own).updE I12' _ nD sD12 (fun a o q n => eA.keep a o (keepO f3 a o q n) n) same1
                                      · rw [eR]
                                        simp only [R.bind_ok]
                                        rw [eR2]
                                        simp only [R.bind_ok, fin2]
                                        have e10 : zs ++ [y] ++ (ys ++ us) = zs ++ (y :: ys ++ us) := by simp
                                        rw [e10, if_pos hlen]
                                        exact h4
                                    · rw [if_neg hlen] at h4
                                      exact False.elim h4
                      · -- the second source is at its end
                        have hdrop1 : es.drop j = [] := List.drop_eq_nil_of_le (by omega)
                        rw [hdrop1] at h4
                        simp only [compD, R.bind_ok, List.nil_append] at h4
                        refine .inl ⟨it1.stop j H'' (by omega) (s73.trans J3.sub), m - 1, by omega, by omega, S'', g'', ws, zs, ?_, f3, hw, tD, rw', h4⟩
                        have K1 := (I.wiped own).updE J3 (.lst []) nD tD (keepO f3) same1
                        have K2 := I.back K1 (grO f3)
                        have K3 := I.updD K2 (.lst ws) nD tD (fun a o q n => by
                          have ha : a ≠ D := ne_of_none q nD
                          rw [upd_ne ha]
                          exact keepO f3 a o q n)
                        rw [upd_upd, upd_id hw] at K3
                        exact K3
                  · rw [if_neg hes] at h3
                    simp only [R.bind_bad, fin2] at h3
                    exact False.elim h3
        · have hdrop : ds.drop i = [] := List.drop_eq_nil_of_le (by omega)
          rw [hdrop] at h3
          simp only [compD2, R.bind_ok, List.append_nil, fin2] at h3
          refine .inl ⟨it.stop i H' (by omega) (e3'.trans I3.sub), ?_⟩
          by_cases hx : xs.length ≤ big
          · rw [if_pos hx] at h3
            refine h3 D (.lst vs) H' S' I3 ?_ sD nD hv (.lst rv)
            refine e1.trans ⟨fun a o q n => ?_, e3.base, fun a q => ?_, fun a q => ?_⟩
            · have ha : a ≠ D := ne_of_none q hD
              have z := e3.keep a o (by rw [upd_ne ha]; exact q) n
              rw [upd_ne ha] at z
              exact z
            · rcases e3.new a q with z | z
              · exact .inl z
              · by_cases ha : a = D
                · subst ha; exact .inr hD
                · rw [upd_ne ha] at z; exact .inr z
            · by_cases ha : a = D
              · subst ha; rw [hv]; simp
              · have z := e3.there a (by rw [upd_ne ha]; exact q)
                rw [upd_ne ha] at z
                exact z
          · rw [if_neg hx] at h3
            exact False.elim h3
    · rw [if_neg hz] at h
      exact False.elim h
/-- x = [.. for .. for ..], x a local -/
theorem psd_setLcO2 (i : Nat) {y : Str} {py : Pos} {elt tg iter tg1 iter1 : Expr} {ifs ifs1 : List Expr} {scope : Scope} {own : List (Str × Nat)} {lpos : Pos} {ts ts1 vs1 : List Nat} {fi fi1 : Ar} {ft ft1 : Tg} {fc fc1 : Te} {fe : Ex} (hc : X.calm = true) (hN : X.N.Nodup)
    (hsw : swapsWith (.ListComp elt [⟨tg, iter, ifs, 0⟩, ⟨tg1, iter1, ifs1, 0⟩] scope lpos) (some (.Name y py)) pos.line X.env = pure true) (hi : PI X tg iter (tI cls W fi)) (ok : BlkOk X.N X.env.scope scope own)
    (hg : ∀ (s : Shared) (H : Hp) (C : Addr) (cl : List (Str × Addr)) (fp : List Addr), PG (X.blk s H scope (compEnvC scope cl C X.env) fp) tg (tG ts ft)) (ht : ∀ (s : Shared) (H : Hp) (C : Addr) (cl : List (Str × Addr)) (fp : List Addr), PTs (X.blk s H scope (compEnvC scope cl C X.env) fp) ifs (tT cls W0 fc))
    (hi1 : ∀ (s : Shared) (H : Hp) (C : Addr) (cl : List (Str × Addr)) (fp : List Addr), PI (X.blk s H scope (compEnvC scope cl C X.env) fp) tg1 iter1 (tI cls W0 fi1))
    (hg1 : ∀ (s : Shared) (H : Hp) (C : Addr) (cl : List (Str × Addr)) (fp : List Addr), PG (X.blk s H scope (compEnvC scope cl C X.env) fp) tg1 (tG ts1 ft1)) (ht1 : ∀ (s : Shared) (H : Hp) (C : Addr) (cl : List (Str × Addr)) (fp : List Addr), PTs (X.blk s H scope (compEnvC scope cl C X.env) fp) ifs1 (tT cls W0 fc1))
    (he : ∀ (s : Shared) (H : Hp) (C : Addr) (cl : List (Str × Addr)) (fp : List Addr), PE (X.blk s H scope (compEnvC scope cl C X.env) fp) elt (tE cls W0 fe)) (hsh : ShT ts ft) (hv : ∀ i ∈ vs1, i ∈ own.map (·.2) := by decide) (hts : ∀ i ∈ ts, i ∈ own.map (·.2) := by decide) (hts1 : ∀ i ∈ ts1, i ∈ vs1 := by decide) (hy : X.N[i]? = some y := by rfl) (hyl : X.env.scope.names.lookup y = some .local := by rfl)
    (hs : ∀ x, foldedSetIterable iter X.env x = pure x := by intro _; rfl) (hs1 : ∀ env x, foldedSetIterable iter1 env x = pure x := by intro _ _; rfl) :
    PS X (.Assign [.Name y py] (.ListComp elt [⟨tg, iter, ifs, 0⟩, ⟨tg1, iter1, ifs1, 0⟩] scope lpos) pos) (tS cls W (setOS i (lcO2 fi (own.map (·.2)) ft fc fi1 vs1 ft1 fc1 fe))) :=
  PS_imp (ps_setLc2 hc hN hy hyl hsw hi ok hv hg ht hi1 hg1 ht1 he hs hs1) fun D σ H h => lc2_of hts hts1 hsh σ H _ (setOS_of h)
end
end DL

set_option Elab.async false
set_option linter.all false
set_option maxRecDepth 100000
set_option maxHeartbeats 400000
/-! The data layer, part 13: several except clauses. -/
namespace DL
open PySem PySem.Spec PyProof.Rows L2
def pickH (hs : List (Nat × Sm)) (m : Nat) (ρ : Nv) (g : G) : SR := match hs with
  | [] => .ex m ρ g
  | p :: r => if m = p.1 then noEx (p.2 ρ g) else pickH r m ρ g
@[simp] theorem pickH_nil (m : Nat) (ρ : Nv) (g : G) : pickH [] m ρ g = .ex m ρ g := rfl
@[simp] theorem pickH_cons (p : Nat × Sm) (r : List (Nat × Sm)) (m : Nat) (ρ : Nv) (g : G) : pickH (p :: r) m ρ g = if m = p.1 then noEx (p.2 ρ g) else pickH r m ρ g := rfl
/-- try: body / except .. / except ..; cnt classes there are -/
@[simp] def tryM (hs : List (Nat × Sm)) (cnt : Nat) (sb : Sm) : Sm := fun ρ g => match sb ρ g with
  | .ex m ρ1 g1 => if m < cnt then pickH hs m ρ1 g1 else .bad
  | r => r
section
variable {X : Cx} {cls : Nat → Value} {W : WX} {pos : Pos}
abbrev hdT (cls : Nat → Value) (p : Nat × Sm) : Value × (Addr → Value → Option Addr → TS) := (cls p.1, fun _ _ _ => tS cls W0 p.2)
structure HdsM (X : Cx) (cls : Nat → Value) (cnt : Nat) (hds : List ExceptHandler) (hs : List (Nat × Sm)) : Prop where
  ok : HdsOk X hds (hs.map (hdT cls))
  ex : ∀ p ∈ hs, ∀ m, m < cnt → PySem.W.exmOne X.K (cls m) (cls p.1) = some (decide (m = p.1))
theorem hdsM_nil {cnt : Nat} : HdsM X cls cnt [] [] := ⟨.nil, fun _ h => nomatch h⟩
theorem hdsM_cons {cnt n : Nat} {x : Str} {np pos' : Pos} {suite : List Stmt} {b₀ : Stmt} {sh : Sm} {hds : List ExceptHandler} {hs : List (Nat × Sm)} (hx : ∀ m, m < cnt → PySem.W.exmOne X.K (cls m) (cls n) = some (decide (m = n))) (hm : X.mg x = some (cls n))
    (hsu : ∀ (a : Addr) (oe : Obj) (pn : List (Addr × Obj)), PSs (X.suite a ((a, oe) :: pn)) (b₀ :: suite) (tS cls W0 sh)) (r : HdsM X cls cnt hds hs) (hg : Gl X x := by rfl) (hd : (x == ("__debug__" : Str)) = false := by decide) :
    HdsM X cls cnt (.ExceptHandler (some (.Name x np)) none (b₀ :: suite) pos' :: hds) ((n, sh) :: hs) :=
  ⟨.cons ⟨hg, hd, .inl hm⟩ (fun a oe _ _ pn _ _ => hsu a oe pn) r.ok, fun p hp => by
    rcases List.mem_cons.mp hp with z | z
    · rw [z]; exact hx
    · exact r.ex p z⟩
theorem many_of {K : PySem.W.Frag} {B : Bs} {D : Ends} {S S' H' : Hp} {σ' : L2.St} {ρ1 : Nv} {g1 : G} {m cnt : Nat} (hmc : m < cnt) (I' : Good B σ' H' S' ρ1 g1) (e' : Same S S') : ∀ hs : List (Nat × Sm), (∀ p ∈ hs, ∀ m, m < cnt → PySem.W.exmOne K (cls m) (cls p.1) = some (decide (m = p.1))) → SO cls W B S D (pickH hs m ρ1 g1) → wMany K W D (hs.map (hdT cls)) (cls m) none σ' H'
  | [], _, h => h σ' H' S' I' e'
  | p :: r, hx, h => by
    unfold pickH at h
    rw [List.map_cons]
    refine ⟨decide (m = p.1), hx p List.mem_cons_self m hmc, fun hb a _ => ?_, fun hb => ?_⟩
    · rw [if_pos (of_decide_eq_true hb)] at h
      refine ⟨B, S', ρ1, g1, I', ?_⟩
      have h2 := SO_gr e' h
      cases eh : p.2 ρ1 g1 with
      | nx ρ2 g2 => rw [eh] at h2; exact h2
      | rt d g2 => rw [eh] at h2; exact h2
      | bk ρ2 g2 => rw [eh] at h2; exact h2
      | ct ρ2 g2 => rw [eh] at h2; exact h2
      | bad => rw [eh] at h2; exact h2
      | ex k ρ2 g2 => rw [eh] at h2; exact False.elim h2
    · rw [if_neg (of_decide_eq_false hb)] at h
      exact many_of hmc I' e' r (fun q hq => hx q (List.mem_cons_of_mem _ hq)) h
theorem psd_tryM {cnt : Nat} {body : List Stmt} {h₀ : ExceptHandler} {hds : List ExceptHandler} {hs : List (Nat × Sm)} {sb : Sm} (hst : X.stack = X.env :: X.outer) (hf : X.env.frame = some X.env.locals) (tk : Takes X W)
    (hb : ∀ (W' : WX) (pn : List (Addr × Obj)) (xe : Value → Shared → Prop), Takes (X.tr pn xe) W' → PassesOwn (model X.prog X.w) X.A X.env xe → PSs (X.tr pn xe) body (tS cls W' sb))
    (hh : HdsM X cls cnt (h₀ :: hds) hs) : PS X (.Try body (h₀ :: hds) [] [] pos) (tS cls W (tryM hs cnt sb)) :=
  PS_imp (ps_try_many (tb := fun W' => tS cls W' sb) hst hf tk hb hh.ok) fun D σ H ⟨B, S, ρ, g, I, h⟩ => by
    unfold tryM at h
    refine ⟨B, S, ρ, g, I, ?_⟩
    cases es : sb ρ g with
    | nx ρ1 g1 => rw [es] at h; exact h
    | rt d g1 => rw [es] at h; exact h
    | bk ρ1 g1 => rw [es] at h; exact h
    | ct ρ1 g1 => rw [es] at h; exact h
    | bad => rw [es] at h; exact h
    | ex m ρ1 g1 =>
      rw [es] at h
      intro σ' H' S' I' e'
      by_cases hmc : m < cnt
      · simp only [if_pos hmc] at h
        exact many_of hmc I' e' hs hh.ex h
      · simp only [if_neg hmc] at h
        exact False.elim h
end
end DL

set_option Elab.async false
set_option linter.all false
set_option maxRecDepth 100000
set_option maxHeartbeats 400000
/-! The data layer, part 14: dicts of one's own. -/
namespace DL
open PySem PySem.Spec PyProof.Rows L2
def keyD : PyData → Option Key
  | .int i => some (.inl i)
  | .str s => some (.inr s)
  | _ => none
def valK (kvs : List (Key × PyData)) (k : Key) : Option PyData := (kvs.find? fun kv => decide (kv.1 = k)).map (·.2)
def putD (kvs : List (Key × PyData)) (k : Key) (d : PyData) : List (Key × PyData) := if (kvs.any fun kv => decide (kv.1 = k)) = true then kvs.map (fun kv => if kv.1 = k then (kv.1, d) else kv) else kvs ++ [(k, d)]
abbrev KPr (S : Hp) : List (Key × PyData) → List (Key × V) → Prop := Paired (fun (p : Key × PyData) (q : Key × V) => p.1 = q.1 ∧ Rp S q.2 p.2)
theorem KPr.len {S : Hp} {kvs : List (Key × PyData)} {ws : List (Key × V)} (r : KPr S kvs ws) : kvs.length = ws.length := by
  induction r with
  | nil => rfl
  | cons _ _ ih => rw [List.length_cons, List.length_cons, ih]
theorem KPr.val {S : Hp} {kvs : List (Key × PyData)} {ws : List (Key × V)} (r : KPr S kvs ws) (k : Key) : (valK kvs k = none ∧ valV ws k = none) ∨ ∃ d v, valK kvs k = some d ∧ valV ws k = some v ∧ Rp S v d := by
  induction r with
  | nil => exact .inl ⟨rfl, rfl⟩
  | @cons p q ps qs h t ih =>
    by_cases e : p.1 = k
    · refine .inr ⟨p.2, q.2, ?_, ?_, h.2⟩
      · simp [valK, List.find?_cons, e]
      · exact valV_pos (by rw [← h.1]; exact e)
    · have e1 : valK (p :: ps) k = valK ps k := by simp [valK, List.find?_cons, e]
      have e2 : valV (q :: qs) k = valV qs k := valV_neg (by rw [← h.1]; exact e)
      rw [e1, e2]
      exact ih
theorem KPr.any {S : Hp} {kvs : List (Key × PyData)} {ws : List (Key × V)} (r : KPr S kvs ws) (k : Key) : (kvs.any fun kv => decide (kv.1 = k)) = ws.any fun kv => decide (kv.1 = k) := by
  induction r with
  | nil => rfl
  | @cons p q ps qs h t ih => rw [List.any_cons, List.any_cons, ih, h.1]
theorem KPr.repl {S : Hp} {kvs : List (Key × PyData)} {ws : List (Key × V)} {d : PyData} {v : V} (r : KPr S kvs ws) (k : Key) (hv : Rp S v d) : KPr S (kvs.map (fun kv => if kv.1 = k then (kv.1, d) else kv)) (ws.map (fun kv => if kv.1 = k then (kv.1, v) else kv)) := by
  induction r with
  | nil => exact .nil
  | @cons p q ps qs h t ih =>
    rw [List.map_cons, List.map_cons]
    refine .cons ?_ ih
    by_cases e : p.1 = k
    · rw [if_pos e, if_pos (by rw [← h.1]; exact e)]
      exact ⟨h.1, hv⟩
    · rw [if_neg e, if_neg (by rw [← h.1]; exact e)]
      exact h
theorem KPr.snoc {S : Hp} {kvs : List (Key × PyData)} {ws : List (Key × V)} {d : PyData} {v : V} (r : KPr S kvs ws) (k : Key) (hv : Rp S v d) : KPr S (kvs ++ [(k, d)]) (ws ++ [(k, v)]) := by
  induction r with
  | nil => exact .cons ⟨rfl, hv⟩ .nil
  | cons h t ih => exact .cons h ih
theorem KPr.put {S : Hp} {kvs : List (Key × PyData)} {ws : List (Key × V)} {d : PyData} {v : V} (r : KPr S kvs ws) (k : Key) (hv : Rp S v d) : KPr S (putD kvs k d) (putK ws k v) := by
  unfold putD putK
  rw [r.any k]
  by_cases e : (ws.any fun kv => decide (kv.1 = k)) = true
  · rw [if_pos e, if_pos e]; exact r.repl k hv
  · rw [if_neg e, if_neg e]; exact r.snoc k hv
theorem KPr.mono {S S' : Hp} (h : Same S S') {kvs : List (Key × PyData)} {ws : List (Key × V)} (r : KPr S kvs ws) : KPr S' kvs ws := Paired.mapP r fun _ _ z => ⟨z.1, z.2.mono h⟩
theorem key_rp {S : Hp} {v : V} {d : PyData} {k : Key} (r : Rp S v d) (e : keyD d = some k) : v = kV k := by
  cases r with
  | int i => cases e; rfl
  | str s => cases e; rfl
  | _ => cases e
section
variable {X : Cx} {cls : Nat → Value} {W : WX} {pos : Pos} {a b e : Expr} {fa fb fe : Ex} {D : Ends} {σ : L2.St} {H : Hp} {j : Nat}
@[simp] def dictO : Ow := fun _ g => .ok (.dk []) g
theorem po_dict : PE X (.Dict [] [] pos) (tO cls W dictO) := PE_imp pe_dnewK fun σ H Q ⟨B, S, ρ, g, I, h⟩ => by
  intro p hp
  obtain ⟨I2, e2⟩ := I.allocO (o := .dK []) hp
  exact h p _ _ _ I2 e2 (I.stay hp) hp upd_same (.dk .nil)
/-- e in x, e not in x: x a dict of one's own -/
def keyT (neg : Bool) (i : Nat) (f : Ex) : Te := fun ρ g => match f ρ g with
  | .ok d g1 => (match ρ[i]? with
    | some (.ow (.dk kvs)) => (match keyD d with
      | some k => .ok (if neg = true then !(valK kvs k).isSome else (valK kvs k).isSome) g1
      | none => .bad)
    | _ => .bad)
  | .ex n g1 => .ex n g1
  | .bad => .bad
theorem keyT_of {neg : Bool} {i : Nat} {Q : Bool → Hp → Prop} (h : tT cls W (keyT neg i fe) σ H Q) : tE cls W fe σ H fun y H1 => ∃ v, σ[i]? = some (some v) ∧ ∃ a o, v = .ref a ∧ DGet H1 a y o ∧ Q (if neg = true then !o.isSome else o.isSome) H1 := by
  obtain ⟨B, S, ρ, g, I, h⟩ := h
  unfold keyT at h
  refine ⟨B, S, ρ, g, I, ?_⟩
  cases ef : fe ρ g with
  | bad => rw [ef] at h; exact h
  | ex n g1 => rw [ef] at h; exact h
  | ok d g1 =>
    rw [ef] at h
    simp only at h
    split at h
    · rename_i kvs hi
      cases ek : keyD d with
      | none => rw [ek] at h; exact False.elim h
      | some k =>
        rw [ek] at h
        intro y H1 S1 I1 e1 r1
        obtain ⟨l, o, h1, h2, h3, h4, h5, h6⟩ := I1.ow i _ hi
        cases h6 with
        | @dk _ ws r0 =>
          have ey := key_rp r1 ek
          refine ⟨.ref l, h1, l, valV ws k, rfl, by rw [ey]; exact DGet.k h5, ?_⟩
          have hv : (valV ws k).isSome = (valK kvs k).isSome := by
            rcases KPr.val r0 k with ⟨v1, v2⟩ | ⟨d', v, v1, v2, _⟩
            · rw [v1, v2]; rfl
            · rw [v1, v2]; rfl
          rw [hv]
          exact h H1 S1 I1 e1
    · exact False.elim h
theorem ptd_keyNo (i : Nat) {x : Str} {p : Pos} (hr : Room j X.A) (hk : PE X e (tE cls W fe)) (hN : X.N[i]? = some x := by rfl) (hv : Vis X.env.scope x := by first | exact Or.inl rfl | exact Or.inr (Or.inl rfl) | exact Or.inr (Or.inr rfl)) (hd : (x == ("__debug__" : Str)) = false := by decide) (hcd : (x == ("__classdict__" : Str)) = false := by decide) (hm : behindInMarks .NotIn (.Name x p) = false := by first | exact nomark _ | rfl) :
    PT X (.Compare e [.NotIn] [.Name x p] pos) (tT cls W (keyT true i fe)) :=
  PT_imp (pt_cmp (pc_dnotin (by have := hu64 hr; omega) hk (pe_var hN hv hd hcd)) hm) fun σ H Q h => by
    have h := keyT_of h
    obtain ⟨B, S, ρ, g, I, h⟩ := h
    refine ⟨B, S, ρ, g, I, ?_⟩
    cases ef : fe ρ g with
    | bad => rw [ef] at h; exact h
    | ex n g1 => rw [ef] at h; exact h
    | ok d g1 =>
      rw [ef] at h
      intro y H1 S1 I1 e1 r1
      obtain ⟨v, h1, a, o, h2, h3, h4⟩ := h y H1 S1 I1 e1 r1
      exact ⟨v, h1, a, o, h2, h3, _, rfl, h4⟩
theorem ptd_keyIn (i : Nat) {x : Str} {p : Pos} (hr : Room j X.A) (hk : PE X e (tE cls W fe)) (hN : X.N[i]? = some x := by rfl) (hv : Vis X.env.scope x := by first | exact Or.inl rfl | exact Or.inr (Or.inl rfl) | exact Or.inr (Or.inr rfl)) (hd : (x == ("__debug__" : Str)) = false := by decide) (hcd : (x == ("__classdict__" : Str)) = false := by decide) (hm : behindInMarks .In (.Name x p) = false := by first | exact nomark _ | rfl) :
    PT X (.Compare e [.In] [.Name x p] pos) (tT cls W (keyT false i fe)) :=
  PT_imp (pt_cmp (pc_din (by have := hu64 hr; omega) hk (pe_var hN hv hd hcd)) hm) fun σ H Q h => by
    have h := keyT_of h
    obtain ⟨B, S, ρ, g, I, h⟩ := h
    refine ⟨B, S, ρ, g, I, ?_⟩
    cases ef : fe ρ g with
    | bad => rw [ef] at h; exact h
    | ex n g1 => rw [ef] at h; exact h
    | ok d g1 =>
      rw [ef] at h
      intro y H1 S1 I1 e1 r1
      obtain ⟨v, h1, a, o, h2, h3, h4⟩ := h y H1 S1 I1 e1 r1
      exact ⟨v, h1, a, o, h2, h3, _, rfl, h4⟩
/-- x[e], x a dict of one's own -/
def keyE (i : Nat) (f : Ex) : Ex := fun ρ g => match ρ[i]? with
  | some (.ow (.dk kvs)) => (f ρ g).bind fun d g1 => (match keyD d with
    | some k => ofO (valK kvs k) g1
    | none => .bad)
  | _ => .bad
theorem pd_key (i : Nat) {x : Str} {p : Pos} (hr : Room j X.A) (hk : PE X e (tE cls W fe)) (hN : X.N[i]? = some x := by rfl) (hv : Vis X.env.scope x := by first | exact Or.inl rfl | exact Or.inr (Or.inl rfl) | exact Or.inr (Or.inr rfl)) (hd : (x == ("__debug__" : Str)) = false := by decide) (hcd : (x == ("__classdict__" : Str)) = false := by decide) (hs : NoSl e := by exact fun _ _ => rfl) :
    PE X (.Subscript (.Name x p) e pos) (tE cls W (keyE i fe)) :=
  PE_imp (pe_dget (by have := hu64 hr; omega) (pe_var hN hv hd hcd) hk hs) fun σ H Q ⟨B, S, ρ, g, I, h⟩ => by
    unfold keyE at h
    split at h
    · rename_i kvs hi
      obtain ⟨l, o, h1, h2, h3, h4, h5, h6⟩ := I.ow i _ hi
      refine ⟨.ref l, h1, B, S, ρ, g, I, ?_⟩
      cases ef : fe ρ g with
      | bad => rw [ef] at h; exact h
      | ex n g1 => rw [ef] at h; exact h
      | ok d g1 =>
        rw [ef] at h
        simp only [R.bind_ok] at h
        cases ek : keyD d with
        | none => rw [ek] at h; exact False.elim h
        | some k =>
          rw [ek] at h
          simp only at h
          intro y H1 S1 I1 e1 r1
          have ey := key_rp r1 ek
          cases h6 with
          | @dk _ ws r0 =>
            have h5' := e1.keep l _ h5 h3
            have r0' : KPr S1 kvs ws := KPr.mono e1.base r0
            rcases KPr.val r0' k with ⟨v1, v2⟩ | ⟨d', v, v1, v2, v3⟩
            · rw [v1] at h; exact False.elim h
            · rw [v1] at h
              refine ⟨l, v, rfl, ?_, h v H1 S1 I1 e1 v3⟩
              rw [ey, ← v2]
              exact DGet.k h5'
    · exact False.elim h
/-- x[e] = v, x a dict of one's own -/
def keyS (i : Nat) (fk fv : Ex) : Sm := stE fv fun d ρ g => match fk ρ g with
  | .ok z g2 => (match ρ[i]?, keyD z with
    | some (.ow (.dk kvs)), some k => if kvs.length < big then .nx (ρ.set i (.ow (.dk (putD kvs k d)))) g2 else .bad
    | _, _ => .bad)
  | _ => .bad
theorem psd_key (i : Nat) {x : Str} {p pos' : Pos} (hr : Room j X.A) (hk : PE X b (tE cls W fb)) (ha : PE X a (tE cls W fa)) (hN : X.N[i]? = some x := by rfl) (hv : Vis X.env.scope x := by first | exact Or.inl rfl | exact Or.inr (Or.inl rfl) | exact Or.inr (Or.inr rfl)) (hd : (x == ("__debug__" : Str)) = false := by decide) (hcd : (x == ("__classdict__" : Str)) = false := by decide)
    (hs : swapsWith a (some (.Subscript (.Name x p) b pos')) pos.line X.env = pure false := by rfl) :
    PS X (.Assign [.Subscript (.Name x p) b pos'] a pos) (tS cls W (keyS i fb fa)) :=
  PS_imp (ps_dput (by have := hu64 hr; omega) (pe_var hN hv hd hcd) hk ha hs) fun D σ H h => st_of h fun B S ρ g d v H1 I r q => by
    cases ek : fb ρ g with
    | bad => rw [ek] at q; exact False.elim q
    | ex n g2 => rw [ek] at q; exact False.elim q
    | ok z g2 =>
      rw [ek] at q
      simp only at q
      split at q
      · rename_i kvs k hi hz
        by_cases hb : kvs.length < big
        · rw [if_pos hb] at q
          obtain ⟨l, o, h1, h2, h3, h4, h5, h6⟩ := I.ow i _ hi
          cases h6 with
          | @dk _ ws r0 =>
            refine ⟨.ref l, h1, B, S, ρ, g, I, ?_⟩
            rw [ek]
            intro y H2 S2 I2 e2 r2
            have ey := key_rp r2 hz
            have h5' := e2.keep l _ h5 h3
            have r0' : KPr S2 kvs ws := KPr.mono e2.base r0
            refine ⟨l, _, rfl, by rw [ey]; exact DPut.k h5' (by rw [← KPr.len r0]; exact big_lt hb), ?_⟩
            exact q _ _ _ (I2.mutO hi h1 (b' := .dk (putD kvs k d)) (.dk (r0'.put k (r.mono e2.base))) fun _ z => nomatch z) e2.base
        · rw [if_neg hb] at q; exact False.elim q
      · exact False.elim q
end
end DL

set_option Elab.async false
set_option linter.all false
set_option maxRecDepth 100000
set_option maxHeartbeats 1000000
namespace K
open PySem PySem.Spec PyProof.Rows L2 DL
def topS (i : Nat) : Stmt := PySem.Challenge.pw_everypurse_k30_least_starts.main.body.getD i (.Pass ⟨0, 0, 0, 0⟩)
/-- how a def stands behind the top -/
abbrev Df (K : PySem.W.Frag) (mg : Str → Option Value) (x : Str) (st : Stmt) (ps : List Str) : Prop := ∃ (f : Addr) (fd : FuncData), Fun K x x st f fd ∧ mg x = some (.ref f) ∧ L2.Binds K fd ps []
structure Tx (K : PySem.W.Frag) (mg : Str → Option Value) (cls : Nat → Value) : Prop where
  n_bool : mg "bool" = none
  n_int : mg "int" = none
  n_isinstance : mg "isinstance" = none
  n_len : mg "len" = none
  n_list : mg "list" = none
  n_max : mg "max" = none
  n_min : mg "min" = none
  n_range : mg "range" = none
  n_str : mg "str" = none
  n_sum : mg "sum" = none
  n_tuple : mg "tuple" = none
  c_MOST_AMOUNT : ∃ t, mg "MOST_AMOUNT" = some (.int 8 t)
  c_MOST_ROOMS : ∃ t, mg "MOST_ROOMS" = some (.int 8 t)
  c_MOST_WAYS : ∃ t, mg "MOST_WAYS" = some (.int 24 t)
  e_0 : ExcN K mg cls 0 "BadProgram"
  x_0 : ∀ m, m < 2 → PySem.W.exmOne K (cls m) (cls 0) = some (decide (m = 0))
  g_0 : mg "BadProgram" = some (cls 0)
  e_1 : ExcN K mg cls 1 "BadArgument"
  x_1 : ∀ m, m < 2 → PySem.W.exmOne K (cls m) (cls 1) = some (decide (m = 1))
  g_1 : mg "BadArgument" = some (cls 1)
section
variable {P : Program} {w : World} {K : PySem.W.Frag} {mg : Str → Option Value} {base : Heap} {cls : Nat → Value}
abbrev s_law_mixed : Stmt := topS 29
abbrev N_law_mixed : List Str := ["number", "k", "step"]
theorem sc_law_mixed : FnScope N_law_mixed ["number", "k"] (defScope s_law_mixed) := ⟨rfl, rfl, rfl, by decide +kernel, rfl, by decide +kernel, by decide +kernel⟩
noncomputable def b_law_mixed : Sm := (seqS (setS 2 (opD modD (opD addD (opD addD (opD mulD (varD 0) (constD (.int 48271))) (opD mulD (varD 1) (constD (.int 69621)))) (constD (.int 12345))) (constD (.int 2147483647))))
  (retS (opD modD (opD addD (opD mulD (varD 2) (opD addD (opD fdivD (varD 2) (constD (.int 65536))) (constD (.int 3)))) (varD 1)) (constD (.int 2147483647)))))
noncomputable def m_law_mixed : Fn := fnD 1 false b_law_mixed
theorem ok_law_mixed (T : Tx K mg cls) (D : Df K mg "_law_mixed" s_law_mixed ["number", "k"])  : Kept P w K mg base cls "_law_mixed" ["number", "k"] false m_law_mixed 1 :=
  fn_ok (body := b_law_mixed) D sc_law_mixed fun f cdv A outer s H E hr => by
    have tk := takes_of (X := cxOf (L2.CX P w) P w K mg base N_law_mixed "_law_mixed" (defScope s_law_mixed) f cdv A outer s H E) (E := E) rfl rfl rfl rfl
    have hp := passes_of (X := cxOf (L2.CX P w) P w K mg base N_law_mixed "_law_mixed" (defScope s_law_mixed) f cdv A outer s H E) rfl
    exact (pssd_cons (psd_set 2 sc_law_mixed.nd (pd_mod (pd_add (pd_add (pd_mul (pd_var 0) pd_int) (pd_mul (pd_var 1) pd_int)) pd_int) pd_int))
    (pssd_one (psd_ret (pd_mod (pd_add (pd_mul (pd_var 2) (pd_add (pd_fdiv (pd_var 2) pd_int) pd_int)) (pd_var 1)) pd_int))))
abbrev s_law_draw : Stmt := topS 31
abbrev N_law_draw : List Str := ["draws", "at", "first"]
theorem sc_law_draw : FnScope N_law_draw ["draws"] (defScope s_law_draw) := ⟨rfl, rfl, rfl, by decide +kernel, rfl, by decide +kernel, by decide +kernel⟩
noncomputable def b_law_draw : Sm := (seqS (setS 1 (dr1 0))
  (seqS (drSetS 0 (opD addD (varD 1) (constD (.int 1))))
  (seqS (ifS (boolD (opD (cmpD fun i j => decide (i < j)) (varD 1) (unD lenD (dr0 0))))
  (retS (opD ixD (dr0 0) (varD 1)))
  nextS)
  (seqS (setS 2 (opD addD (constD (.int 1)) (varD 1)))
  (seqS (ifS (boolD (opD (cmpD fun i j => decide (j < i)) (unD lenD (dr0 0)) (constD (.int 0))))
  (setS 2 (opD addD (varD 2) (opD mulD (constD (.int 1009)) (opD ixD (dr0 0) (constD (.int 0))))))
  nextS)
  (retS (opD modD (callD 2 m_law_mixed (consD (callD 2 m_law_mixed (consD (varD 2) (consD (varD 1) nilD))) (consD (constD (.int 5)) nilD))) (constD (.int 1000000)))))))))
noncomputable def m_law_draw : Fn := fnD 2 true b_law_draw
theorem ok_law_draw (T : Tx K mg cls) (D : Df K mg "_law_draw" s_law_draw ["draws"]) (k_law_mixed : Kept P w K mg base cls "_law_mixed" ["number", "k"] false m_law_mixed 1) : Kept P w K mg base cls "_law_draw" ["draws"] true m_law_draw 2 :=
  fn_ok (body := b_law_draw) D sc_law_draw fun f cdv A outer s H E hr => by
    have tk := takes_of (X := cxOf (L2.CX P w) P w K mg base N_law_draw "_law_draw" (defScope s_law_draw) f cdv A outer s H E) (E := E) rfl rfl rfl rfl
    have hp := passes_of (X := cxOf (L2.CX P w) P w K mg base N_law_draw "_law_draw" (defScope s_law_draw) f cdv A outer s H E) rfl
    exact (pssd_cons (psd_set 1 sc_law_draw.nd (pd_dr1 0))
    (pssd_cons (psd_drSet 0 (pd_add (pd_var 1) pd_int))
    (pssd_cons (psd_if (ptd_cmp c_lt (pd_var 1) (pd_len T.n_len (pd_dr0 0)))
    (pssd_one (psd_ret (pd_ix (pd_dr0 0) (pd_var 1))))
    pssd_nil)
    (pssd_cons (psd_set 2 sc_law_draw.nd (pd_add pd_int (pd_var 1)))
    (pssd_cons (psd_if (ptd_cmp c_gt (pd_len T.n_len (pd_dr0 0)) pd_int)
    (pssd_one (psd_set 2 sc_law_draw.nd (pd_add (pd_var 2) (pd_mul pd_int (pd_ix (pd_dr0 0) pd_int)))))
    pssd_nil)
    (pssd_one (psd_ret (pd_mod (pd_call k_law_mixed hr (by decide) tk (pad_cons (pd_call k_law_mixed hr (by decide) tk (pad_cons (pd_var 2) (pad_cons (pd_var 1) pad_nil))) (pad_cons pd_int pad_nil))) pd_int))))))))
abbrev s_law_arena : Stmt := topS 34
abbrev N_law_arena : List Str := ["draws", "rooms", "owners", "ways", "k", "room"]
theorem sc_law_arena : FnScope N_law_arena ["draws", "rooms"] (defScope s_law_arena) := ⟨rfl, rfl, rfl, by decide +kernel, rfl, by decide +kernel, by decide +kernel⟩
noncomputable def b_law_arena : Sm := (seqS (setS 2 (unD tupleD (shareO (lcO (rangeD (varD 1)) [5] (nameT 5) yesT (opD modD (callG 1 0 m_law_draw nilD) (constD (.int 2)))))))
  (seqS (setOS 3 (lcO (rangeD (varD 1)) [5] (nameT 5) yesT (tupD (consD (varD 5) (consD (opD modD (callG 1 0 m_law_draw nilD) (varD 1)) (consD (opD ixD (shareO (lstO (consD (opD subD (opD modD (callG 1 0 m_law_draw nilD) (constD (.int 5))) (constD (.int 2))) (consD (opD subD (opD modD (callG 1 0 m_law_draw nilD) (constD (.int 17))) (constD (.int 8))) nilD)))) (opD modD (callG 1 0 m_law_draw nilD) (constD (.int 2)))) nilD))))))
  (seqS (forS (rangeD (opD modD (callG 1 0 m_law_draw nilD) (opD addD (varD 1) (constD (.int 2))))) (nameT 4)
  (appS 3 (tupD (consD (opD modD (callG 1 0 m_law_draw nilD) (varD 1)) (consD (opD modD (callG 1 0 m_law_draw nilD) (varD 1)) (consD (opD subD (opD modD (callG 1 0 m_law_draw nilD) (constD (.int 7))) (constD (.int 3))) nilD))))))
  (shutS 3 (retS (tupD (consD (varD 2) (consD (unD tupleD (varD 3)) nilD))))))))
noncomputable def m_law_arena : Fn := fnD 4 true b_law_arena
theorem ok_law_arena (T : Tx K mg cls) (D : Df K mg "_law_arena" s_law_arena ["draws", "rooms"]) (k_law_draw : Kept P w K mg base cls "_law_draw" ["draws"] true m_law_draw 2) : Kept P w K mg base cls "_law_arena" ["draws", "rooms"] true m_law_arena 3 :=
  fn_ok (body := b_law_arena) D sc_law_arena fun f cdv A outer s H E hr => by
    have tk := takes_of (X := cxOf (L2.CX P w) P w K mg base N_law_arena "_law_arena" (defScope s_law_arena) f cdv A outer s H E) (E := E) rfl rfl rfl rfl
    have hp := passes_of (X := cxOf (L2.CX P w) P w K mg base N_law_arena "_law_arena" (defScope s_law_arena) f cdv A outer s H E) rfl
    exact (pssd_cons (psd_set 2 sc_law_arena.nd (pd_tuple T.n_tuple (pd_share (po_lc (own := [("room", 5)]) rfl sc_law_arena.nd (pid_range T.n_range (pd_var 1)) (blkOk_by (own := [("room", 5)]) (N := N_law_arena) (sc := defScope s_law_arena) (by decide +kernel)) (fun _ _ _ _ _ => (pgd_name 5 sc_law_arena.nd)) (fun _ _ _ _ _ => ptsd_nil) (fun _ _ _ _ _ => (pd_mod (pd_callG 0 k_law_draw hr (by decide) takes0 pad_nil) pd_int))))))
    (pssd_cons (psd_setLcO 3 (own := [("room", 5)]) rfl sc_law_arena.nd (sw_true rfl rfl rfl (by decide +kernel)) (pid_range T.n_range (pd_var 1)) (blkOk_by (own := [("room", 5)]) (N := N_law_arena) (sc := defScope s_law_arena) (by decide +kernel)) (fun _ _ _ _ _ => (pgd_name 5 sc_law_arena.nd)) (fun _ _ _ _ _ => ptsd_nil) (fun _ _ _ _ _ => (pd_tup (pad_cons (pd_var 5) (pad_cons (pd_mod (pd_callG 0 k_law_draw hr (by decide) takes0 pad_nil) (pd_var 1)) (pad_cons (pd_ix (pd_share (po_lst (pad_cons (pd_sub (pd_mod (pd_callG 0 k_law_draw hr (by decide) takes0 pad_nil) pd_int) pd_int) (pad_cons (pd_sub (pd_mod (pd_callG 0 k_law_draw hr (by decide) takes0 pad_nil) pd_int) pd_int) pad_nil)))) (pd_mod (pd_callG 0 k_law_draw hr (by decide) takes0 pad_nil) pd_int)) pad_nil))))))
    (pssd_cons (psd_for hp rfl (pid_range T.n_range (pd_mod (pd_callG 0 k_law_draw hr (by decide) tk pad_nil) (pd_add (pd_var 1) pd_int))) (pgd_name 4 sc_law_arena.nd)
    (pssd_one (psd_app 3 (pd_tup (pad_cons (pd_mod (pd_callG 0 k_law_draw hr (by decide) tk pad_nil) (pd_var 1)) (pad_cons (pd_mod (pd_callG 0 k_law_draw hr (by decide) tk pad_nil) (pd_var 1)) (pad_cons (pd_sub (pd_mod (pd_callG 0 k_law_draw hr (by decide) tk pad_nil) pd_int) pd_int) pad_nil)))))))
    (pssd_shut 3 (pssd_one (psd_ret (pd_tup (pad_cons (pd_var 2) (pad_cons (pd_tuple T.n_tuple (pd_var 3)) pad_nil)))))))))
abbrev s_law_prices : Stmt := topS 35
abbrev N_law_prices : List Str := ["owners", "ways", "most", "prices", "changed", "room", "asked_v", "good", "source", "target", "amount", "due", "one"]
theorem sc_law_prices : FnScope N_law_prices ["owners", "ways"] (defScope s_law_prices) := ⟨rfl, rfl, rfl, by decide +kernel, rfl, by decide +kernel, by decide +kernel⟩
noncomputable def b_law_prices : Sm := (seqS (setS 2 (opD mulD (constD (.int 8)) (unD lenD (varD 0))))
  (seqS (setOS 3 (mulO (shareO (lstO (consD (constD (.int 0)) nilD))) (unD lenD (varD 0))))
  (seqS (setS 4 (constD (.bool true)))
  (seqS (whileS (truthD (varD 4))
  (seqS (setS 4 (constD (.bool false)))
  (forS (rangeD (unD lenD (varD 0))) (nameT 5)
  (seqS (setOS 6 (lstO nilD))
  (seqS (forS (itemsD (varD 1)) (tupT (consT (nameT 8) (consT (nameT 9) (consT (nameT 10) nilT))))
  (ifS (boolD (opD eqD (varD 8) (varD 5)))
  (appS 6 (ifD (boolD (unD isNoneD (ixO 3 (varD 9)))) (constD .none) (opD max2D (constD (.int 0)) (opD subD (ixO 3 (varD 9)) (varD 10)))))
  nextS))
  (seqS (setOS 7 (peekO 6 (lcO (itemsD (varD 6)) [12] (nameT 12) (boolD (unD notNoneD (varD 12))) (varD 12)))) (shutS 7 (seqS (ifS (boolD (opD eqD (opD ixD (varD 0) (varD 5)) (constD (.int 0))))
  (setS 11 (ifD (boolD (opD (cmpD fun i j => decide (j < i)) (unD lenD (varD 7)) (constD (.int 0)))) (unD minD (varD 7)) (constD .none)))
  (setS 11 (peekD 6 (ifD (boolD (opD eqD (unD lenD (varD 7)) (unD lenD (varD 6)))) (unD maxD (varD 7)) (constD .none)))))
  (seqS (ifS (andT (boolD (unD notNoneD (varD 11))) (boolD (opD (cmpD fun i j => decide (j < i)) (varD 11) (varD 2))))
  (setS 11 (constD .none))
  nextS)
  (ifS (boolD (opD neD (varD 11) (ixO 3 (varD 5))))
  (seqS (setIxS 3 (varD 5) (varD 11))
  (setS 4 (constD (.bool true))))
  nextS))))))))))
  (shutS 3 (retS (varD 3)))))))
noncomputable def m_law_prices : Fn := fnD 11 false b_law_prices
theorem ok_law_prices (T : Tx K mg cls) (D : Df K mg "_law_prices" s_law_prices ["owners", "ways"])  : Kept P w K mg base cls "_law_prices" ["owners", "ways"] false m_law_prices 1 :=
  fn_ok (body := b_law_prices) D sc_law_prices fun f cdv A outer s H E hr => by
    have tk := takes_of (X := cxOf (L2.CX P w) P w K mg base N_law_prices "_law_prices" (defScope s_law_prices) f cdv A outer s H E) (E := E) rfl rfl rfl rfl
    have hp := passes_of (X := cxOf (L2.CX P w) P w K mg base N_law_prices "_law_prices" (defScope s_law_prices) f cdv A outer s H E) rfl
    exact (pssd_cons (psd_set 2 sc_law_prices.nd (pd_mul pd_int (pd_len T.n_len (pd_var 0))))
    (pssd_cons (psd_setO 3 sc_law_prices.nd (po_mul (pd_share (po_lst (pad_cons pd_int pad_nil))) (pd_len T.n_len (pd_var 0))))
    (pssd_cons (psd_set 4 sc_law_prices.nd pd_bl)
    (pssd_cons (psd_while hp (ptd_val (pd_var 4))
    (pssd_cons (psd_set 4 sc_law_prices.nd pd_bl)
    (pssd_one (psd_for hp rfl (pid_range T.n_range (pd_len T.n_len (pd_var 0))) (pgd_name 5 sc_law_prices.nd)
    (pssd_cons (psd_setO 6 sc_law_prices.nd (po_lst pad_nil))
    (pssd_cons (psd_for hp rfl (pid_seq (pd_var 1)) (pgd_tup rfl (pgsd_cons (pgd_name 8 sc_law_prices.nd) (pgsd_cons (pgd_name 9 sc_law_prices.nd) (pgsd_cons (pgd_name 10 sc_law_prices.nd) pgsd_nil))) len3)
    (pssd_one (psd_if (ptd_cmp (c_eq hr) (pd_var 8) (pd_var 5))
    (pssd_one (psd_app 6 (pd_if (ptd_isN (pd_ixO 3 (pd_var 9))) pd_non (pd_max2 rfl T.n_max pd_int (pd_sub (pd_ixO 3 (pd_var 9)) (pd_var 10))))))
    pssd_nil)))
    (pssd_setLc 7 (psd_setLcOp 7 6 (own := [("one", 12)]) rfl sc_law_prices.nd (sw_true rfl rfl rfl (by decide +kernel)) (pid_seq (pd_var 6)) (blkOk_by (own := [("one", 12)]) (N := N_law_prices) (sc := defScope s_law_prices) (by decide +kernel)) (fun _ _ _ _ _ => (pgd_name 12 sc_law_prices.nd)) (fun _ _ _ _ _ => (ptsd_one (ptd_notN (pd_var 12)))) (fun _ _ _ _ _ => (pd_var 12))) (pssd_cons (psd_if (ptd_cmp (c_eq hr) (pd_ix (pd_var 0) (pd_var 5)) pd_int)
    (pssd_one (psd_set 11 sc_law_prices.nd (pd_if (ptd_cmp c_gt (pd_len T.n_len (pd_var 7)) pd_int) (pd_min1 rfl T.n_min (pd_var 7)) pd_non)))
    (pssd_one (psd_set 11 sc_law_prices.nd (pd_peek 6 (pd_if (ptd_cmp (c_eq hr) (pd_len T.n_len (pd_var 7)) (pd_len T.n_len (pd_var 6))) (pd_max1 rfl T.n_max (pd_var 7)) pd_non)))))
    (pssd_cons (psd_if (PW.pt (pwd_and (ptd_notN (pd_var 11)) (pwd_and1 (ptd_cmp c_gt (pd_var 11) (pd_var 2)))))
    (pssd_one (psd_set 11 sc_law_prices.nd pd_non))
    pssd_nil)
    (pssd_one (psd_if (ptd_cmp (c_ne hr) (pd_var 11) (pd_ixO 3 (pd_var 5)))
    (pssd_cons (psd_setIx 3 (pd_var 5) (pd_var 11))
    (pssd_one (psd_set 4 sc_law_prices.nd pd_bl)))
    pssd_nil)))))))))))
    (pssd_shut 3 (pssd_one (psd_ret (pd_var 3))))))))
abbrev s_law_numbers : Stmt := topS 30
abbrev N_law_numbers : List Str := ["script", "numbers", "cell", "rest", "k"]
theorem sc_law_numbers : FnScope N_law_numbers ["script"] (defScope s_law_numbers) := ⟨rfl, rfl, rfl, by decide +kernel, rfl, by decide +kernel, by decide +kernel⟩
noncomputable def b_law_numbers : Sm := (ifS (boolD (opD (cmpD fun i j => decide (j ≤ i)) (varD 2) (opD powD (constD (.int 10)) (constD (.int 18)))))
  (seqS (setS 3 (varD 2))
  (forS (rangeD (constD (.int 60))) (nameT 4)
  (ifS (boolD (opD (cmpD fun i j => decide (j < i)) (varD 3) (constD (.int 0))))
  (seqS (appS 1 (opD modD (varD 3) (constD (.int 1000000))))
  (setS 3 (opD fdivD (varD 3) (constD (.int 1000000)))))
  nextS)))
  (seqS (appS 1 (opD modD (varD 2) (constD (.int 1000000))))
  (forS (rangeD (constD (.int 5))) (nameT 4)
  (appS 1 (opD modD (callD 2 m_law_mixed (consD (callD 2 m_law_mixed (consD (opD modD (varD 2) (constD (.int 2147483647))) (consD (varD 4) nilD))) (consD (opD addD (varD 4) (constD (.int 7))) nilD))) (constD (.int 1000000)))))))
def t_law_numbers : Tg := (nameT 2)
theorem ok_law_numbers (T : Tx K mg cls) (D : Df K mg "_law_numbers" s_law_numbers ["script"]) (k_law_mixed : Kept P w K mg base cls "_law_mixed" ["number", "k"] false m_law_mixed 1)
    (hm : ∀ ns : List Int, ns.length ≤ 63 → ∃ (ms : List Int) (ρ' : Nv), Small ms ∧ forD t_law_numbers b_law_numbers (ns.map PyData.int) (.sc :: .ow (.lst []) :: List.replicate 3 .no) none = .nx ρ' none ∧ ρ'[1]? = some (.ow (.lst (ms.map PyData.int)))) :
    ∃ (f : Addr) (fd : FuncData), mg "_law_numbers" = some (.ref f) ∧ PySem.W.keepIn K (.ref f) = true ∧ L2.Binds K fd ["script"] [] ∧ FnOk P w K mg base (L2.CX P w) 2 f fd ["script"] (spNum K) :=
  num_ok (t := t_law_numbers) (sb := b_law_numbers) D sc_law_numbers (fun f cdv A outer s H E ns hr => by
    have tk := takes_of (X := cxOf (L2.CX P w) P w K mg base N_law_numbers "_law_numbers" (defScope s_law_numbers) f cdv A outer s H E) (E := E) rfl rfl rfl rfl
    have hp := passes_of (X := cxOf (L2.CX P w) P w K mg base N_law_numbers "_law_numbers" (defScope s_law_numbers) f cdv A outer s H E) rfl
    exact pss_cons (psd_setO 1 sc_law_numbers.nd (po_lst pad_nil)) (pss_cons (psd_forSc 0 hp rfl (pgd_name 2 sc_law_numbers.nd)
    (pssd_one (psd_if (ptd_cmp c_ge (pd_var 2) (pd_pow pd_int pd_int))
    (pssd_cons (psd_set 3 sc_law_numbers.nd (pd_var 2))
    (pssd_one (psd_for hp rfl (pid_range T.n_range pd_int) (pgd_name 4 sc_law_numbers.nd)
    (pssd_one (psd_if (ptd_cmp c_gt (pd_var 3) pd_int)
    (pssd_cons (psd_app 1 (pd_mod (pd_var 3) pd_int))
    (pssd_one (psd_set 3 sc_law_numbers.nd (pd_fdiv (pd_var 3) pd_int))))
    pssd_nil)))))
    (pssd_cons (psd_app 1 (pd_mod (pd_var 2) pd_int))
    (pssd_one (psd_for hp rfl (pid_range T.n_range pd_int) (pgd_name 4 sc_law_numbers.nd)
    (pssd_one (psd_app 1 (pd_mod (pd_call k_law_mixed hr (by decide) tk (pad_cons (pd_call k_law_mixed hr (by decide) tk (pad_cons (pd_mod (pd_var 2) pd_int) (pad_cons (pd_var 4) pad_nil))) (pad_cons (pd_add (pd_var 4) pd_int) pad_nil))) pd_int))))))))) (pssd_shut 1 (pssd_one (psd_ret (pd_var 1)))))) hm
abbrev s_law_all_equal : Stmt := topS 33
abbrev N_law_all_equal : List Str := ["actual", "due", "k"]
theorem sc_law_all_equal : FnScope N_law_all_equal ["actual", "due"] (defScope s_law_all_equal) := ⟨rfl, rfl, rfl, by decide +kernel, rfl, by decide +kernel, by decide +kernel⟩
def b_law_all_equal (m_law_equal : Fn) : Sm := (seqS (forS (rangeD (unD lenD (varD 1))) (nameT 2)
  (ifS (notT (truthD (callD 2 m_law_equal (consD (opD ixD (varD 0) (varD 2)) (consD (opD ixD (varD 1) (varD 2)) nilD)))))
  (retS (constD (.bool false)))
  nextS))
  (retS (constD (.bool true))))
theorem ok_law_all_equal {m_law_equal : Fn} {j : Nat} (T : Tx K mg cls) (D : Df K mg "_law_all_equal" s_law_all_equal ["actual", "due"]) (k_law_equal : Kept P w K mg base cls "_law_equal" ["actual", "due"] false m_law_equal j) : Kept P w K mg base cls "_law_all_equal" ["actual", "due"] false (fnD 1 false (b_law_all_equal m_law_equal)) (j + 1) :=
  fn_ok (body := b_law_all_equal m_law_equal) D sc_law_all_equal fun f cdv A outer s H E hr => by
    have tk := takes_of (X := cxOf (L2.CX P w) P w K mg base N_law_all_equal "_law_all_equal" (defScope s_law_all_equal) f cdv A outer s H E) (E := E) rfl rfl rfl rfl
    have hp := passes_of (X := cxOf (L2.CX P w) P w K mg base N_law_all_equal "_law_all_equal" (defScope s_law_all_equal) f cdv A outer s H E) rfl
    exact (pssd_cons (psd_for hp rfl (pid_range T.n_range (pd_len T.n_len (pd_var 1))) (pgd_name 2 sc_law_all_equal.nd)
    (pssd_one (psd_if (ptd_not (ptd_val (pd_call k_law_equal hr (Nat.le_refl _) tk (pad_cons (pd_ix (pd_var 0) (pd_var 2)) (pad_cons (pd_ix (pd_var 1) (pd_var 2)) pad_nil)))))
    (pssd_one (psd_ret pd_bl))
    pssd_nil)))
    (pssd_one (psd_ret pd_bl)))
abbrev s_law_equal : Stmt := topS 32
abbrev N_law_equal : List Str := ["actual", "due"]
theorem sc_law_equal : FnScope N_law_equal ["actual", "due"] (defScope s_law_equal) := ⟨rfl, rfl, rfl, by decide +kernel, rfl, by decide +kernel, by decide +kernel⟩
def b_law_equal (m_law_all_equal : Fn) : Sm := (seqS (ifS (truthD (unD (isiD "list") (varD 1)))
  (seqS (ifS (orT (notT (truthD (unD (isiD "list") (varD 0)))) (boolD (opD neD (unD lenD (varD 0)) (unD lenD (varD 1)))))
  (retS (constD (.bool false)))
  nextS)
  (retS (callD 2 m_law_all_equal (consD (varD 0) (consD (varD 1) nilD)))))
  nextS)
  (seqS (ifS (truthD (unD (isiD "tuple") (varD 1)))
  (seqS (ifS (orT (notT (truthD (unD (isiD "tuple") (varD 0)))) (boolD (opD neD (unD lenD (varD 0)) (unD lenD (varD 1)))))
  (retS (constD (.bool false)))
  nextS)
  (retS (callD 2 m_law_all_equal (consD (varD 0) (consD (varD 1) nilD)))))
  nextS)
  (seqS (ifS (truthD (unD (isiD "bool") (varD 1)))
  (retS (andV (unD (isiD "bool") (varD 0)) (opD eqD (varD 0) (varD 1))))
  nextS)
  (seqS (ifS (truthD (unD (isiD "int") (varD 1)))
  (retS (andV (unD (isiD "int") (varD 0)) (andV (notV (unD (isiD "bool") (varD 0))) (opD eqD (varD 0) (varD 1)))))
  nextS)
  (seqS (ifS (truthD (unD (isiD "str") (varD 1)))
  (retS (andV (unD (isiD "str") (varD 0)) (opD eqD (varD 0) (varD 1))))
  nextS)
  (retS (unD isNoneD (varD 0))))))))
theorem ok_law_equal {m_law_all_equal : Fn} {j : Nat} (T : Tx K mg cls) (D : Df K mg "_law_equal" s_law_equal ["actual", "due"]) (k_law_all_equal : Kept P w K mg base cls "_law_all_equal" ["actual", "due"] false m_law_all_equal j) : Kept P w K mg base cls "_law_equal" ["actual", "due"] false (fnD 0 false (b_law_equal m_law_all_equal)) (j + 1) :=
  fn_ok (body := b_law_equal m_law_all_equal) D sc_law_equal fun f cdv A outer s H E hr => by
    have tk := takes_of (X := cxOf (L2.CX P w) P w K mg base N_law_equal "_law_equal" (defScope s_law_equal) f cdv A outer s H E) (E := E) rfl rfl rfl rfl
    have hp := passes_of (X := cxOf (L2.CX P w) P w K mg base N_law_equal "_law_equal" (defScope s_law_equal) f cdv A outer s H E) rfl
    exact (pssd_cons (psd_if (ptd_val (pd_isi kit_list T.n_isinstance T.n_list PyProof.Rows.boot_list (pd_var 1)))
    (pssd_cons (psd_if (PW.pt (pwd_or (ptd_not (ptd_val (pd_isi kit_list T.n_isinstance T.n_list PyProof.Rows.boot_list (pd_var 0)))) (pwd_or1 (ptd_cmp (c_ne hr) (pd_len T.n_len (pd_var 0)) (pd_len T.n_len (pd_var 1))))))
    (pssd_one (psd_ret pd_bl))
    pssd_nil)
    (pssd_one (psd_ret (pd_call k_law_all_equal hr (Nat.le_refl _) tk (pad_cons (pd_var 0) (pad_cons (pd_var 1) pad_nil))))))
    pssd_nil)
    (pssd_cons (psd_if (ptd_val (pd_isi kit_tuple T.n_isinstance T.n_tuple PyProof.Rows.boot_tuple (pd_var 1)))
    (pssd_cons (psd_if (PW.pt (pwd_or (ptd_not (ptd_val (pd_isi kit_tuple T.n_isinstance T.n_tuple PyProof.Rows.boot_tuple (pd_var 0)))) (pwd_or1 (ptd_cmp (c_ne hr) (pd_len T.n_len (pd_var 0)) (pd_len T.n_len (pd_var 1))))))
    (pssd_one (psd_ret pd_bl))
    pssd_nil)
    (pssd_one (psd_ret (pd_call k_law_all_equal hr (Nat.le_refl _) tk (pad_cons (pd_var 0) (pad_cons (pd_var 1) pad_nil))))))
    pssd_nil)
    (pssd_cons (psd_if (ptd_val (pd_isi kit_bool T.n_isinstance T.n_bool PyProof.Rows.boot_bool (pd_var 1)))
    (pssd_one (psd_ret (pd_and (pd_isi kit_bool T.n_isinstance T.n_bool PyProof.Rows.boot_bool (pd_var 0)) (pd_one (pd_cmp (c_eq hr) (pd_var 0) (pd_var 1))))))
    pssd_nil)
    (pssd_cons (psd_if (ptd_val (pd_isi kit_int T.n_isinstance T.n_int PyProof.Rows.boot_int (pd_var 1)))
    (pssd_one (psd_ret (pd_and (pd_isi kit_int T.n_isinstance T.n_int PyProof.Rows.boot_int (pd_var 0)) (pd_and (pd_not (pd_isi kit_bool T.n_isinstance T.n_bool PyProof.Rows.boot_bool (pd_var 0))) (pd_one (pd_cmp (c_eq hr) (pd_var 0) (pd_var 1)))))))
    pssd_nil)
    (pssd_cons (psd_if (ptd_val (pd_isi kit_str T.n_isinstance T.n_str PyProof.Rows.boot_str (pd_var 1)))
    (pssd_one (psd_ret (pd_and (pd_isi kit_str T.n_isinstance T.n_str PyProof.Rows.boot_str (pd_var 0)) (pd_one (pd_cmp (c_eq hr) (pd_var 0) (pd_var 1))))))
    pssd_nil)
    (pssd_one (psd_ret (pd_isN (pd_var 0)))))))))
mutual
def eqA : Nat → Fn
  | 0 => fun _ _ => .bad
  | n + 1 => fnD 0 false (b_law_equal (eqB n))
def eqB : Nat → Fn
  | 0 => fun _ _ => .bad
  | n + 1 => fnD 1 false (b_law_all_equal (eqA n))
end
def m_law_equal : Fn := eqA 16
theorem ok_eqs (T : Tx K mg cls) (D1 : Df K mg "_law_equal" s_law_equal ["actual", "due"]) (D2 : Df K mg "_law_all_equal" s_law_all_equal ["actual", "due"]) : ∀ n : Nat, Kept P w K mg base cls "_law_equal" ["actual", "due"] false (eqA n) (n + 1) ∧ Kept P w K mg base cls "_law_all_equal" ["actual", "due"] false (eqB n) (n + 1)
  | 0 => ⟨by unfold eqA; exact kept_bad D1, by unfold eqB; exact kept_bad D2⟩
  | n + 1 => by
    obtain ⟨h1, h2⟩ := ok_eqs T D1 D2 n
    exact ⟨by unfold eqA; exact ok_law_equal T D1 h2, by unfold eqB; exact ok_law_all_equal T D2 h1⟩
theorem ok_law_equal40 (T : Tx K mg cls) (D1 : Df K mg "_law_equal" s_law_equal ["actual", "due"]) (D2 : Df K mg "_law_all_equal" s_law_all_equal ["actual", "due"]) : Kept P w K mg base cls "_law_equal" ["actual", "due"] false m_law_equal 40 := (ok_eqs T D1 D2 16).1.mono (by decide)
abbrev s_law_plans : Stmt := topS 36
abbrev N_law_plans : List Str := ["owners", "ways", "player", "found", "room", "some", "longer", "plan", "k", "one"]
theorem sc_law_plans : FnScope N_law_plans ["owners", "ways", "player"] (defScope s_law_plans) := ⟨rfl, rfl, rfl, by decide +kernel, rfl, by decide +kernel, by decide +kernel⟩
noncomputable def b_law_plans : Sm := (seqS (setS 3 (shareO (lstO (consD (tupD nilD) nilD))))
  (seqS (forS (rangeD (unD lenD (varD 0))) (nameT 4)
  (seqS (setS 5 (shareO (lstO (consD (constD .none) nilD))))
  (seqS (ifS (boolD (opD eqD (opD ixD (varD 0) (varD 4)) (varD 2)))
  (seqS (setOS 5 (lcO (rangeD (unD lenD (varD 1))) [8] (nameT 8) (boolD (opD eqD (opD ixD (opD ixD (varD 1) (varD 8)) (constD (.int 0))) (varD 4))) (varD 8))) (shutS 5 nextS))
  nextS)
  (seqS (setS 6 (shareO (lstO nilD)))
  (seqS (forS (itemsD (varD 3)) (nameT 7)
  (setS 6 (opD addD (varD 6) (shareO (lcO (itemsD (varD 5)) [9] (nameT 9) yesT (opD addD (varD 7) (tupD (consD (varD 9) nilD))))))))
  (setS 3 (varD 6)))))))
  (retS (varD 3))))
noncomputable def m_law_plans : Fn := fnD 7 false b_law_plans
theorem ok_law_plans (T : Tx K mg cls) (D : Df K mg "_law_plans" s_law_plans ["owners", "ways", "player"])  : Kept P w K mg base cls "_law_plans" ["owners", "ways", "player"] false m_law_plans 1 :=
  fn_ok (body := b_law_plans) D sc_law_plans fun f cdv A outer s H E hr => by
    have tk := takes_of (X := cxOf (L2.CX P w) P w K mg base N_law_plans "_law_plans" (defScope s_law_plans) f cdv A outer s H E) (E := E) rfl rfl rfl rfl
    have hp := passes_of (X := cxOf (L2.CX P w) P w K mg base N_law_plans "_law_plans" (defScope s_law_plans) f cdv A outer s H E) rfl
    exact (pssd_cons (psd_set 3 sc_law_plans.nd (pd_share (po_lst (pad_cons (pd_tup pad_nil) pad_nil))))
    (pssd_cons (psd_for hp rfl (pid_range T.n_range (pd_len T.n_len (pd_var 0))) (pgd_name 4 sc_law_plans.nd)
    (pssd_cons (psd_set 5 sc_law_plans.nd (pd_share (po_lst (pad_cons pd_non pad_nil))))
    (pssd_cons (psd_if (ptd_cmp (c_eq hr) (pd_ix (pd_var 0) (pd_var 4)) (pd_var 2))
    (pssd_setLc 5 (psd_setLcO 5 (own := [("k", 8)]) rfl sc_law_plans.nd (sw_true rfl rfl rfl (by decide +kernel)) (pid_range T.n_range (pd_len T.n_len (pd_var 1))) (blkOk_by (own := [("k", 8)]) (N := N_law_plans) (sc := defScope s_law_plans) (by decide +kernel)) (fun _ _ _ _ _ => (pgd_name 8 sc_law_plans.nd)) (fun _ _ _ _ _ => (ptsd_one (ptd_cmp (c_eq hr) (pd_ix (pd_ix (pd_var 1) (pd_var 8)) pd_int) (pd_var 4)))) (fun _ _ _ _ _ => (pd_var 8))) pssd_nil)
    pssd_nil)
    (pssd_cons (psd_set 6 sc_law_plans.nd (pd_share (po_lst pad_nil)))
    (pssd_cons (psd_for hp rfl (pid_seq (pd_var 3)) (pgd_name 7 sc_law_plans.nd)
    (pssd_one (psd_set 6 sc_law_plans.nd (pd_add (pd_var 6) (pd_share (po_lc (own := [("one", 9)]) rfl sc_law_plans.nd (pid_seq (pd_var 5)) (blkOk_by (own := [("one", 9)]) (N := N_law_plans) (sc := defScope s_law_plans) (by decide +kernel)) (fun _ _ _ _ _ => (pgd_name 9 sc_law_plans.nd)) (fun _ _ _ _ _ => ptsd_nil) (fun _ _ _ _ _ => (pd_add (pd_var 7) (pd_tup (pad_cons (pd_var 9) pad_nil))))))))))
    (pssd_one (psd_set 3 sc_law_plans.nd (pd_var 6))))))))
    (pssd_one (psd_ret (pd_var 3)))))
abbrev s_is_tuple : Stmt := topS 6
abbrev N_is_tuple : List Str := ["value", "size"]
theorem sc_is_tuple : FnScope N_is_tuple ["value", "size"] (defScope s_is_tuple) := ⟨rfl, rfl, rfl, by decide +kernel, rfl, by decide +kernel, by decide +kernel⟩
noncomputable def b_is_tuple : Sm := (retS (andV (unD (isiD "tuple") (varD 0)) (opD eqD (unD lenD (varD 0)) (varD 1))))
noncomputable def m_is_tuple : Fn := fnD 0 false b_is_tuple
theorem ok_is_tuple (T : Tx K mg cls) (D : Df K mg "is_tuple" s_is_tuple ["value", "size"])  : Kept P w K mg base cls "is_tuple" ["value", "size"] false m_is_tuple 1 :=
  fn_ok (body := b_is_tuple) D sc_is_tuple fun f cdv A outer s H E hr => by
    have tk := takes_of (X := cxOf (L2.CX P w) P w K mg base N_is_tuple "is_tuple" (defScope s_is_tuple) f cdv A outer s H E) (E := E) rfl rfl rfl rfl
    have hp := passes_of (X := cxOf (L2.CX P w) P w K mg base N_is_tuple "is_tuple" (defScope s_is_tuple) f cdv A outer s H E) rfl
    exact (pssd_one (psd_ret (pd_and (pd_isi kit_tuple T.n_isinstance T.n_tuple PyProof.Rows.boot_tuple (pd_var 0)) (pd_one (pd_cmp (c_eq hr) (pd_len T.n_len (pd_var 0)) (pd_var 1))))))
abbrev s_is_within : Stmt := topS 5
abbrev N_is_within : List Str := ["value", "least", "most"]
theorem sc_is_within : FnScope N_is_within ["value", "least", "most"] (defScope s_is_within) := ⟨rfl, rfl, rfl, by decide +kernel, rfl, by decide +kernel, by decide +kernel⟩
noncomputable def b_is_within : Sm := (retS (andV (unD (isiD "int") (varD 0)) (andV (notV (unD (isiD "bool") (varD 0))) (chainD (cmpD fun i j => decide (i ≤ j)) (cmpD fun i j => decide (i ≤ j)) (varD 1) (varD 0) (varD 2)))))
noncomputable def m_is_within : Fn := fnD 0 false b_is_within
theorem ok_is_within (T : Tx K mg cls) (D : Df K mg "is_within" s_is_within ["value", "least", "most"])  : Kept P w K mg base cls "is_within" ["value", "least", "most"] false m_is_within 1 :=
  fn_ok (body := b_is_within) D sc_is_within fun f cdv A outer s H E hr => by
    have tk := takes_of (X := cxOf (L2.CX P w) P w K mg base N_is_within "is_within" (defScope s_is_within) f cdv A outer s H E) (E := E) rfl rfl rfl rfl
    have hp := passes_of (X := cxOf (L2.CX P w) P w K mg base N_is_within "is_within" (defScope s_is_within) f cdv A outer s H E) rfl
    exact (pssd_one (psd_ret (pd_and (pd_isi kit_int T.n_isinstance T.n_int PyProof.Rows.boot_int (pd_var 0)) (pd_and (pd_not (pd_isi kit_bool T.n_isinstance T.n_bool PyProof.Rows.boot_bool (pd_var 0))) (pd_one (pd_chain c_le c_le (pd_var 1) (pd_var 0) (pd_var 2)))))))
abbrev s_are_owners : Stmt := topS 12
abbrev N_are_owners : List Str := ["value", "most", "one"]
theorem sc_are_owners : FnScope N_are_owners ["value", "most"] (defScope s_are_owners) := ⟨rfl, rfl, rfl, by decide +kernel, rfl, by decide +kernel, by decide +kernel⟩
noncomputable def b_are_owners : Sm := (seqS (ifS (orT (notT (truthD (unD (isiD "tuple") (varD 0)))) (notT (boolD (chainD (cmpD fun i j => decide (i ≤ j)) (cmpD fun i j => decide (i ≤ j)) (constD (.int 1)) (unD lenD (varD 0)) (varD 1)))))
  (retS (constD (.bool false)))
  nextS)
  (retS (opD eqD (shareO (lcO (itemsD (varD 0)) [2] (nameT 2) (notT (truthD (callD 3 m_is_within (consD (varD 2) (consD (constD (.int 0)) (consD (constD (.int 1)) nilD)))))) (varD 2))) (shareO (lstO nilD)))))
noncomputable def m_are_owners : Fn := fnD 1 false b_are_owners
theorem ok_are_owners (T : Tx K mg cls) (D : Df K mg "are_owners" s_are_owners ["value", "most"]) (k_is_within : Kept P w K mg base cls "is_within" ["value", "least", "most"] false m_is_within 1) : Kept P w K mg base cls "are_owners" ["value", "most"] false m_are_owners 2 :=
  fn_ok (body := b_are_owners) D sc_are_owners fun f cdv A outer s H E hr => by
    have tk := takes_of (X := cxOf (L2.CX P w) P w K mg base N_are_owners "are_owners" (defScope s_are_owners) f cdv A outer s H E) (E := E) rfl rfl rfl rfl
    have hp := passes_of (X := cxOf (L2.CX P w) P w K mg base N_are_owners "are_owners" (defScope s_are_owners) f cdv A outer s H E) rfl
    exact (pssd_cons (psd_if (PW.pt (pwd_or (ptd_not (ptd_val (pd_isi kit_tuple T.n_isinstance T.n_tuple PyProof.Rows.boot_tuple (pd_var 0)))) (pwd_or1 (ptd_not (ptd_chain c_le c_le pd_int (pd_len T.n_len (pd_var 0)) (pd_var 1))))))
    (pssd_one (psd_ret pd_bl))
    pssd_nil)
    (pssd_one (psd_ret (pd_cmp (c_eq hr) (pd_share (po_lc (own := [("one", 2)]) rfl sc_are_owners.nd (pid_seq (pd_var 0)) (blkOk_by (own := [("one", 2)]) (N := N_are_owners) (sc := defScope s_are_owners) (by decide +kernel)) (fun _ _ _ _ _ => (pgd_name 2 sc_are_owners.nd)) (fun _ _ _ _ _ => (ptsd_one (ptd_not (ptd_val (pd_call k_is_within hr (by decide) takes0 (pad_cons (pd_var 2) (pad_cons pd_int (pad_cons pd_int pad_nil)))))))) (fun _ _ _ _ _ => (pd_var 2)))) (pd_share (po_lst pad_nil))))))
abbrev s_is_way : Stmt := topS 11
abbrev N_is_way : List Str := ["value", "rooms"]
theorem sc_is_way : FnScope N_is_way ["value", "rooms"] (defScope s_is_way) := ⟨rfl, rfl, rfl, by decide +kernel, rfl, by decide +kernel, by decide +kernel⟩
noncomputable def b_is_way : Sm := (seqS (ifS (orT (notT (truthD (callD 2 m_is_tuple (consD (varD 0) (consD (constD (.int 3)) nilD))))) (notT (truthD (callD 3 m_is_within (consD (opD ixD (varD 0) (constD (.int 2))) (consD (unD negD (constD (.int 8))) (consD (constD (.int 8)) nilD)))))))
  (retS (constD (.bool false)))
  nextS)
  (retS (andV (callD 3 m_is_within (consD (opD ixD (varD 0) (constD (.int 0))) (consD (constD (.int 0)) (consD (opD subD (varD 1) (constD (.int 1))) nilD)))) (callD 3 m_is_within (consD (opD ixD (varD 0) (constD (.int 1))) (consD (constD (.int 0)) (consD (opD subD (varD 1) (constD (.int 1))) nilD)))))))
noncomputable def m_is_way : Fn := fnD 0 false b_is_way
theorem ok_is_way (T : Tx K mg cls) (D : Df K mg "is_way" s_is_way ["value", "rooms"]) (k_is_tuple : Kept P w K mg base cls "is_tuple" ["value", "size"] false m_is_tuple 1) (k_is_within : Kept P w K mg base cls "is_within" ["value", "least", "most"] false m_is_within 1) : Kept P w K mg base cls "is_way" ["value", "rooms"] false m_is_way 2 :=
  fn_ok (body := b_is_way) D sc_is_way fun f cdv A outer s H E hr => by
    have tk := takes_of (X := cxOf (L2.CX P w) P w K mg base N_is_way "is_way" (defScope s_is_way) f cdv A outer s H E) (E := E) rfl rfl rfl rfl
    have hp := passes_of (X := cxOf (L2.CX P w) P w K mg base N_is_way "is_way" (defScope s_is_way) f cdv A outer s H E) rfl
    exact (pssd_cons (psd_if (PW.pt (pwd_or (ptd_not (ptd_val (pd_call k_is_tuple hr (by decide) tk (pad_cons (pd_var 0) (pad_cons pd_int pad_nil))))) (pwd_or1 (ptd_not (ptd_val (pd_call k_is_within hr (by decide) tk (pad_cons (pd_ix (pd_var 0) pd_int) (pad_cons (pd_neg (pd_globI T.c_MOST_AMOUNT)) (pad_cons (pd_globI T.c_MOST_AMOUNT) pad_nil)))))))))
    (pssd_one (psd_ret pd_bl))
    pssd_nil)
    (pssd_one (psd_ret (pd_and (pd_call k_is_within hr (by decide) tk (pad_cons (pd_ix (pd_var 0) pd_int) (pad_cons pd_int (pad_cons (pd_sub (pd_var 1) pd_int) pad_nil)))) (pd_one (pd_call k_is_within hr (by decide) tk (pad_cons (pd_ix (pd_var 0) pd_int) (pad_cons pd_int (pad_cons (pd_sub (pd_var 1) pd_int) pad_nil)))))))))
abbrev s_ways_from : Stmt := topS 14
abbrev N_ways_from : List Str := ["arena", "room", "k"]
theorem sc_ways_from : FnScope N_ways_from ["arena", "room"] (defScope s_ways_from) := ⟨rfl, rfl, rfl, by decide +kernel, rfl, by decide +kernel, by decide +kernel⟩
noncomputable def b_ways_from : Sm := (retS (shareO (lcO (rangeD (unD lenD (opD ixD (varD 0) (constD (.int 1))))) [2] (nameT 2) (boolD (opD eqD (opD ixD (opD ixD (opD ixD (varD 0) (constD (.int 1))) (varD 2)) (constD (.int 0))) (varD 1))) (varD 2))))
noncomputable def m_ways_from : Fn := fnD 1 false b_ways_from
theorem ok_ways_from (T : Tx K mg cls) (D : Df K mg "ways_from" s_ways_from ["arena", "room"])  : Kept P w K mg base cls "ways_from" ["arena", "room"] false m_ways_from 1 :=
  fn_ok (body := b_ways_from) D sc_ways_from fun f cdv A outer s H E hr => by
    have tk := takes_of (X := cxOf (L2.CX P w) P w K mg base N_ways_from "ways_from" (defScope s_ways_from) f cdv A outer s H E) (E := E) rfl rfl rfl rfl
    have hp := passes_of (X := cxOf (L2.CX P w) P w K mg base N_ways_from "ways_from" (defScope s_ways_from) f cdv A outer s H E) rfl
    exact (pssd_one (psd_ret (pd_share (po_lc (own := [("k", 2)]) rfl sc_ways_from.nd (pid_range T.n_range (pd_len T.n_len (pd_ix (pd_var 0) pd_int))) (blkOk_by (own := [("k", 2)]) (N := N_ways_from) (sc := defScope s_ways_from) (by decide +kernel)) (fun _ _ _ _ _ => (pgd_name 2 sc_ways_from.nd)) (fun _ _ _ _ _ => (ptsd_one (ptd_cmp (c_eq hr) (pd_ix (pd_ix (pd_ix (pd_var 0) pd_int) (pd_var 2)) pd_int) (pd_var 1)))) (fun _ _ _ _ _ => (pd_var 2))))))
abbrev s_check_arena : Stmt := topS 13
abbrev N_check_arena : List Str := ["arena", "way", "room"]
theorem sc_check_arena : FnScope N_check_arena ["arena"] (defScope s_check_arena) := ⟨rfl, rfl, rfl, by decide +kernel, rfl, by decide +kernel, by decide +kernel⟩
noncomputable def b_check_arena : Sm := (seqS (ifS (orT (notT (truthD (callD 2 m_is_tuple (consD (varD 0) (consD (constD (.int 2)) nilD))))) (notT (truthD (callD 2 m_are_owners (consD (opD ixD (varD 0) (constD (.int 0))) (consD (constD (.int 8)) nilD))))))
  (raiseS 0)
  nextS)
  (seqS (ifS (orT (notT (truthD (unD (isiD "tuple") (opD ixD (varD 0) (constD (.int 1)))))) (notT (boolD (chainD (cmpD fun i j => decide (i ≤ j)) (cmpD fun i j => decide (i ≤ j)) (constD (.int 1)) (unD lenD (opD ixD (varD 0) (constD (.int 1)))) (constD (.int 24))))))
  (raiseS 0)
  nextS)
  (seqS (ifS (truthD (shareO (lcO (itemsD (opD ixD (varD 0) (constD (.int 1)))) [1] (nameT 1) (notT (truthD (callD 2 m_is_way (consD (varD 1) (consD (unD lenD (opD ixD (varD 0) (constD (.int 0)))) nilD))))) (varD 1))))
  (raiseS 0)
  nextS)
  (ifS (truthD (shareO (lcO (rangeD (unD lenD (opD ixD (varD 0) (constD (.int 0))))) [2] (nameT 2) (notT (truthD (callD 2 m_ways_from (consD (varD 0) (consD (varD 2) nilD))))) (varD 2))))
  (raiseS 0)
  nextS))))
noncomputable def m_check_arena : Fn := fnD 2 false b_check_arena
theorem ok_check_arena (T : Tx K mg cls) (D : Df K mg "check_arena" s_check_arena ["arena"]) (k_is_tuple : Kept P w K mg base cls "is_tuple" ["value", "size"] false m_is_tuple 1) (k_are_owners : Kept P w K mg base cls "are_owners" ["value", "most"] false m_are_owners 2) (k_is_way : Kept P w K mg base cls "is_way" ["value", "rooms"] false m_is_way 2) (k_ways_from : Kept P w K mg base cls "ways_from" ["arena", "room"] false m_ways_from 1) : Kept P w K mg base cls "check_arena" ["arena"] false m_check_arena 3 :=
  fn_ok (body := b_check_arena) D sc_check_arena fun f cdv A outer s H E hr => by
    have tk := takes_of (X := cxOf (L2.CX P w) P w K mg base N_check_arena "check_arena" (defScope s_check_arena) f cdv A outer s H E) (E := E) rfl rfl rfl rfl
    have hp := passes_of (X := cxOf (L2.CX P w) P w K mg base N_check_arena "check_arena" (defScope s_check_arena) f cdv A outer s H E) rfl
    exact (pssd_cons (psd_if (PW.pt (pwd_or (ptd_not (ptd_val (pd_call k_is_tuple hr (by decide) tk (pad_cons (pd_var 0) (pad_cons pd_int pad_nil))))) (pwd_or1 (ptd_not (ptd_val (pd_call k_are_owners hr (by decide) tk (pad_cons (pd_ix (pd_var 0) pd_int) (pad_cons (pd_globI T.c_MOST_ROOMS) pad_nil))))))))
    (pssd_one (psd_raise T.e_0 rfl tk))
    pssd_nil)
    (pssd_cons (psd_if (PW.pt (pwd_or (ptd_not (ptd_val (pd_isi kit_tuple T.n_isinstance T.n_tuple PyProof.Rows.boot_tuple (pd_ix (pd_var 0) pd_int)))) (pwd_or1 (ptd_not (ptd_chain c_le c_le pd_int (pd_len T.n_len (pd_ix (pd_var 0) pd_int)) (pd_globI T.c_MOST_WAYS))))))
    (pssd_one (psd_raise T.e_0 rfl tk))
    pssd_nil)
    (pssd_cons (psd_if (ptd_val (pd_share (po_lc (own := [("way", 1)]) rfl sc_check_arena.nd (pid_seq (pd_ix (pd_var 0) pd_int)) (blkOk_by (own := [("way", 1)]) (N := N_check_arena) (sc := defScope s_check_arena) (by decide +kernel)) (fun _ _ _ _ _ => (pgd_name 1 sc_check_arena.nd)) (fun _ _ _ _ _ => (ptsd_one (ptd_not (ptd_val (pd_call k_is_way hr (by decide) takes0 (pad_cons (pd_var 1) (pad_cons (pd_len T.n_len (pd_ix (pd_var 0) pd_int)) pad_nil))))))) (fun _ _ _ _ _ => (pd_var 1)))))
    (pssd_one (psd_raise T.e_0 rfl tk))
    pssd_nil)
    (pssd_one (psd_if (ptd_val (pd_share (po_lc (own := [("room", 2)]) rfl sc_check_arena.nd (pid_range T.n_range (pd_len T.n_len (pd_ix (pd_var 0) pd_int))) (blkOk_by (own := [("room", 2)]) (N := N_check_arena) (sc := defScope s_check_arena) (by decide +kernel)) (fun _ _ _ _ _ => (pgd_name 2 sc_check_arena.nd)) (fun _ _ _ _ _ => (ptsd_one (ptd_not (ptd_val (pd_call k_ways_from hr (by decide) takes0 (pad_cons (pd_var 0) (pad_cons (pd_var 2) pad_nil))))))) (fun _ _ _ _ _ => (pd_var 2)))))
    (pssd_one (psd_raise T.e_0 rfl tk))
    pssd_nil)))))
abbrev s_asked : Stmt := topS 15
abbrev N_asked : List Str := ["number", "amount"]
theorem sc_asked : FnScope N_asked ["number", "amount"] (defScope s_asked) := ⟨rfl, rfl, rfl, by decide +kernel, rfl, by decide +kernel, by decide +kernel⟩
noncomputable def b_asked : Sm := (retS (ifD (boolD (unD isNoneD (varD 0))) (constD .none) (opD max2D (constD (.int 0)) (opD subD (varD 0) (varD 1)))))
noncomputable def m_asked : Fn := fnD 0 false b_asked
theorem ok_asked (T : Tx K mg cls) (D : Df K mg "asked" s_asked ["number", "amount"])  : Kept P w K mg base cls "asked" ["number", "amount"] false m_asked 1 :=
  fn_ok (body := b_asked) D sc_asked fun f cdv A outer s H E hr => by
    have tk := takes_of (X := cxOf (L2.CX P w) P w K mg base N_asked "asked" (defScope s_asked) f cdv A outer s H E) (E := E) rfl rfl rfl rfl
    have hp := passes_of (X := cxOf (L2.CX P w) P w K mg base N_asked "asked" (defScope s_asked) f cdv A outer s H E) rfl
    exact (pssd_one (psd_ret (pd_if (ptd_isN (pd_var 0)) pd_non (pd_max2 rfl T.n_max pd_int (pd_sub (pd_var 0) (pd_var 1))))))
abbrev s_least_of : Stmt := topS 17
abbrev N_least_of : List Str := ["numbers", "told", "number"]
theorem sc_least_of : FnScope N_least_of ["numbers"] (defScope s_least_of) := ⟨rfl, rfl, rfl, by decide +kernel, rfl, by decide +kernel, by decide +kernel⟩
noncomputable def b_least_of : Sm := (seqS (setOS 1 (lcO (itemsD (varD 0)) [2] (nameT 2) (boolD (unD notNoneD (varD 2))) (varD 2))) (shutS 1 (retS (ifD (truthD (varD 1)) (unD minD (varD 1)) (constD .none)))))
noncomputable def m_least_of : Fn := fnD 2 false b_least_of
theorem ok_least_of (T : Tx K mg cls) (D : Df K mg "least_of" s_least_of ["numbers"])  : Kept P w K mg base cls "least_of" ["numbers"] false m_least_of 1 :=
  fn_ok (body := b_least_of) D sc_least_of fun f cdv A outer s H E hr => by
    have tk := takes_of (X := cxOf (L2.CX P w) P w K mg base N_least_of "least_of" (defScope s_least_of) f cdv A outer s H E) (E := E) rfl rfl rfl rfl
    have hp := passes_of (X := cxOf (L2.CX P w) P w K mg base N_least_of "least_of" (defScope s_least_of) f cdv A outer s H E) rfl
    exact (pssd_setLc 1 (psd_setLcO 1 (own := [("number", 2)]) rfl sc_least_of.nd (sw_true rfl rfl rfl (by decide +kernel)) (pid_seq (pd_var 0)) (blkOk_by (own := [("number", 2)]) (N := N_least_of) (sc := defScope s_least_of) (by decide +kernel)) (fun _ _ _ _ _ => (pgd_name 2 sc_least_of.nd)) (fun _ _ _ _ _ => (ptsd_one (ptd_notN (pd_var 2)))) (fun _ _ _ _ _ => (pd_var 2))) (pssd_one (psd_ret (pd_if (ptd_val (pd_var 1)) (pd_min1 rfl T.n_min (pd_var 1)) pd_non))))
abbrev s_greatest_of : Stmt := topS 18
abbrev N_greatest_of : List Str := ["numbers"]
theorem sc_greatest_of : FnScope N_greatest_of ["numbers"] (defScope s_greatest_of) := ⟨rfl, rfl, rfl, by decide +kernel, rfl, by decide +kernel, by decide +kernel⟩
noncomputable def b_greatest_of : Sm := (retS (ifD (boolD (opD inD (constD .none) (varD 0))) (constD .none) (unD maxD (varD 0))))
noncomputable def m_greatest_of : Fn := fnD 0 false b_greatest_of
theorem ok_greatest_of (T : Tx K mg cls) (D : Df K mg "greatest_of" s_greatest_of ["numbers"])  : Kept P w K mg base cls "greatest_of" ["numbers"] false m_greatest_of 1 :=
  fn_ok (body := b_greatest_of) D sc_greatest_of fun f cdv A outer s H E hr => by
    have tk := takes_of (X := cxOf (L2.CX P w) P w K mg base N_greatest_of "greatest_of" (defScope s_greatest_of) f cdv A outer s H E) (E := E) rfl rfl rfl rfl
    have hp := passes_of (X := cxOf (L2.CX P w) P w K mg base N_greatest_of "greatest_of" (defScope s_greatest_of) f cdv A outer s H E) rfl
    exact (pssd_one (psd_ret (pd_if (ptd_cmp (c_in hr) pd_non (pd_var 0)) pd_non (pd_max1 rfl T.n_max (pd_var 0)))))
abbrev s_wanted : Stmt := topS 19
abbrev N_wanted : List Str := ["owners", "ways", "choices", "prices", "room", "told", "k"]
theorem sc_wanted : FnScope N_wanted ["owners", "ways", "choices", "prices", "room"] (defScope s_wanted) := ⟨rfl, rfl, rfl, by decide +kernel, rfl, by decide +kernel, by decide +kernel⟩
noncomputable def b_wanted : Sm := (seqS (setOS 5 (lcO (itemsD (opD ixD (varD 2) (varD 4))) [6] (nameT 6) yesT (callD 2 m_asked (consD (opD ixD (varD 3) (opD ixD (opD ixD (varD 1) (varD 6)) (constD (.int 1)))) (consD (opD ixD (opD ixD (varD 1) (varD 6)) (constD (.int 2))) nilD))))) (shutS 5 (retS (ifD (boolD (opD eqD (opD ixD (varD 0) (varD 4)) (constD (.int 0)))) (callD 1 m_least_of (consD (varD 5) nilD)) (callD 1 m_greatest_of (consD (varD 5) nilD))))))
noncomputable def m_wanted : Fn := fnD 2 false b_wanted
theorem ok_wanted (T : Tx K mg cls) (D : Df K mg "wanted" s_wanted ["owners", "ways", "choices", "prices", "room"]) (k_asked : Kept P w K mg base cls "asked" ["number", "amount"] false m_asked 1) (k_least_of : Kept P w K mg base cls "least_of" ["numbers"] false m_least_of 1) (k_greatest_of : Kept P w K mg base cls "greatest_of" ["numbers"] false m_greatest_of 1) : Kept P w K mg base cls "wanted" ["owners", "ways", "choices", "prices", "room"] false m_wanted 2 :=
  fn_ok (body := b_wanted) D sc_wanted fun f cdv A outer s H E hr => by
    have tk := takes_of (X := cxOf (L2.CX P w) P w K mg base N_wanted "wanted" (defScope s_wanted) f cdv A outer s H E) (E := E) rfl rfl rfl rfl
    have hp := passes_of (X := cxOf (L2.CX P w) P w K mg base N_wanted "wanted" (defScope s_wanted) f cdv A outer s H E) rfl
    exact (pssd_setLc 5 (psd_setLcO 5 (own := [("k", 6)]) rfl sc_wanted.nd (sw_true rfl rfl rfl (by decide +kernel)) (pid_seq (pd_ix (pd_var 2) (pd_var 4))) (blkOk_by (own := [("k", 6)]) (N := N_wanted) (sc := defScope s_wanted) (by decide +kernel)) (fun _ _ _ _ _ => (pgd_name 6 sc_wanted.nd)) (fun _ _ _ _ _ => ptsd_nil) (fun _ _ _ _ _ => (pd_call k_asked hr (by decide) takes0 (pad_cons (pd_ix (pd_var 3) (pd_ix (pd_ix (pd_var 1) (pd_var 6)) pd_int)) (pad_cons (pd_ix (pd_ix (pd_var 1) (pd_var 6)) pd_int) pad_nil))))) (pssd_one (psd_ret (pd_if (ptd_cmp (c_eq hr) (pd_ix (pd_var 0) (pd_var 4)) pd_int) (pd_call k_least_of hr (by decide) tk (pad_cons (pd_var 5) pad_nil)) (pd_call k_greatest_of hr (by decide) tk (pad_cons (pd_var 5) pad_nil))))))
abbrev s_is_more : Stmt := topS 16
abbrev N_is_more : List Str := ["one", "other"]
theorem sc_is_more : FnScope N_is_more ["one", "other"] (defScope s_is_more) := ⟨rfl, rfl, rfl, by decide +kernel, rfl, by decide +kernel, by decide +kernel⟩
noncomputable def b_is_more : Sm := (retS (andV (unD notNoneD (varD 1)) (orV (unD isNoneD (varD 0)) (opD (cmpD fun i j => decide (j < i)) (varD 0) (varD 1)))))
noncomputable def m_is_more : Fn := fnD 0 false b_is_more
theorem ok_is_more (T : Tx K mg cls) (D : Df K mg "is_more" s_is_more ["one", "other"])  : Kept P w K mg base cls "is_more" ["one", "other"] false m_is_more 1 :=
  fn_ok (body := b_is_more) D sc_is_more fun f cdv A outer s H E hr => by
    have tk := takes_of (X := cxOf (L2.CX P w) P w K mg base N_is_more "is_more" (defScope s_is_more) f cdv A outer s H E) (E := E) rfl rfl rfl rfl
    have hp := passes_of (X := cxOf (L2.CX P w) P w K mg base N_is_more "is_more" (defScope s_is_more) f cdv A outer s H E) rfl
    exact (pssd_one (psd_ret (pd_and (pd_notN (pd_var 1)) (pd_one (pd_or (pd_isN (pd_var 0)) (pd_one (pd_cmp c_gt (pd_var 0) (pd_var 1))))))))
abbrev s_starts_with : Stmt := topS 20
abbrev N_starts_with : List Str := ["owners", "ways", "choices", "most", "prices", "changed", "room", "told", "k"]
theorem sc_starts_with : FnScope N_starts_with ["owners", "ways", "choices"] (defScope s_starts_with) := ⟨rfl, rfl, rfl, by decide +kernel, rfl, by decide +kernel, by decide +kernel⟩
noncomputable def b_starts_with : Sm := (seqS (setS 3 (unD sumD (shareO (lcO (rangeD (unD lenD (varD 0))) [6] (nameT 6) yesT (unD maxD (opD addD (shareO (lstO (consD (constD (.int 0)) nilD))) (shareO (lcO (itemsD (opD ixD (varD 2) (varD 6))) [8] (nameT 8) yesT (unD negD (opD ixD (opD ixD (varD 1) (varD 8)) (constD (.int 2))))))))))))
  (seqS (setOS 4 (mulO (shareO (lstO (consD (constD (.int 0)) nilD))) (unD lenD (varD 0))))
  (seqS (setS 5 (constD (.bool true)))
  (seqS (whileS (truthD (varD 5))
  (seqS (setS 5 (constD (.bool false)))
  (forS (rangeD (unD lenD (varD 0))) (nameT 6)
  (seqS (setS 7 (peekD 4 (callD 5 m_wanted (consD (varD 0) (consD (varD 1) (consD (varD 2) (consD (varD 4) (consD (varD 6) nilD))))))))
  (seqS (ifS (andT (boolD (unD notNoneD (varD 7))) (boolD (opD (cmpD fun i j => decide (j < i)) (varD 7) (varD 3))))
  (setS 7 (constD .none))
  nextS)
  (ifS (truthD (callD 2 m_is_more (consD (varD 7) (consD (ixO 4 (varD 6)) nilD))))
  (seqS (setIxS 4 (varD 6) (varD 7))
  (setS 5 (constD (.bool true))))
  nextS))))))
  (shutS 4 (retS (varD 4)))))))
noncomputable def m_starts_with : Fn := fnD 6 false b_starts_with
theorem ok_starts_with (T : Tx K mg cls) (D : Df K mg "starts_with" s_starts_with ["owners", "ways", "choices"]) (k_wanted : Kept P w K mg base cls "wanted" ["owners", "ways", "choices", "prices", "room"] false m_wanted 2) (k_is_more : Kept P w K mg base cls "is_more" ["one", "other"] false m_is_more 1) : Kept P w K mg base cls "starts_with" ["owners", "ways", "choices"] false m_starts_with 3 :=
  fn_ok (body := b_starts_with) D sc_starts_with fun f cdv A outer s H E hr => by
    have tk := takes_of (X := cxOf (L2.CX P w) P w K mg base N_starts_with "starts_with" (defScope s_starts_with) f cdv A outer s H E) (E := E) rfl rfl rfl rfl
    have hp := passes_of (X := cxOf (L2.CX P w) P w K mg base N_starts_with "starts_with" (defScope s_starts_with) f cdv A outer s H E) rfl
    exact (pssd_cons (psd_set 3 sc_starts_with.nd (pd_sum rfl T.n_sum (pd_share (po_lc (own := [("room", 6)]) rfl sc_starts_with.nd (pid_range T.n_range (pd_len T.n_len (pd_var 0))) (blkOk_by (own := [("room", 6)]) (N := N_starts_with) (sc := defScope s_starts_with) (by decide +kernel)) (fun _ _ _ _ _ => (pgd_name 6 sc_starts_with.nd)) (fun _ _ _ _ _ => ptsd_nil) (fun _ _ _ _ _ => (pd_max1 rfl T.n_max (pd_add (pd_share (po_lst (pad_cons pd_int pad_nil))) (pd_share (po_lc (own := [("k", 8)]) rfl sc_starts_with.nd (pid_seq (pd_ix (pd_var 2) (pd_var 6))) (blkOk_by (own := [("k", 8)]) (N := N_starts_with) (sc := _) (by kernel_rfl)) (fun _ _ _ _ _ => (pgd_name 8 sc_starts_with.nd)) (fun _ _ _ _ _ => ptsd_nil) (fun _ _ _ _ _ => (pd_neg (pd_ix (pd_ix (pd_var 1) (pd_var 8)) pd_int))))))))))))
    (pssd_cons (psd_setO 4 sc_starts_with.nd (po_mul (pd_share (po_lst (pad_cons pd_int pad_nil))) (pd_len T.n_len (pd_var 0))))
    (pssd_cons (psd_set 5 sc_starts_with.nd pd_bl)
    (pssd_cons (psd_while hp (ptd_val (pd_var 5))
    (pssd_cons (psd_set 5 sc_starts_with.nd pd_bl)
    (pssd_one (psd_for hp rfl (pid_range T.n_range (pd_len T.n_len (pd_var 0))) (pgd_name 6 sc_starts_with.nd)
    (pssd_cons (psd_set 7 sc_starts_with.nd (pd_peek 4 (pd_call k_wanted hr (by decide) tk (pad_cons (pd_var 0) (pad_cons (pd_var 1) (pad_cons (pd_var 2) (pad_cons (pd_var 4) (pad_cons (pd_var 6) pad_nil))))))))
    (pssd_cons (psd_if (PW.pt (pwd_and (ptd_notN (pd_var 7)) (pwd_and1 (ptd_cmp c_gt (pd_var 7) (pd_var 3)))))
    (pssd_one (psd_set 7 sc_starts_with.nd pd_non))
    pssd_nil)
    (pssd_one (psd_if (ptd_val (pd_call k_is_more hr (by decide) tk (pad_cons (pd_var 7) (pad_cons (pd_ixO 4 (pd_var 6)) pad_nil))))
    (pssd_cons (psd_setIx 4 (pd_var 6) (pd_var 7))
    (pssd_one (psd_set 5 sc_starts_with.nd pd_bl)))
    pssd_nil))))))))
    (pssd_shut 4 (pssd_one (psd_ret (pd_var 4))))))))
abbrev s_all_choices : Stmt := topS 21
abbrev N_all_choices : List Str := ["arena", "room"]
theorem sc_all_choices : FnScope N_all_choices ["arena"] (defScope s_all_choices) := ⟨rfl, rfl, rfl, by decide +kernel, rfl, by decide +kernel, by decide +kernel⟩
noncomputable def b_all_choices : Sm := (retS (shareO (lcO (rangeD (unD lenD (opD ixD (varD 0) (constD (.int 0))))) [1] (nameT 1) yesT (callD 2 m_ways_from (consD (varD 0) (consD (varD 1) nilD))))))
noncomputable def m_all_choices : Fn := fnD 1 false b_all_choices
theorem ok_all_choices (T : Tx K mg cls) (D : Df K mg "all_choices" s_all_choices ["arena"]) (k_ways_from : Kept P w K mg base cls "ways_from" ["arena", "room"] false m_ways_from 1) : Kept P w K mg base cls "all_choices" ["arena"] false m_all_choices 2 :=
  fn_ok (body := b_all_choices) D sc_all_choices fun f cdv A outer s H E hr => by
    have tk := takes_of (X := cxOf (L2.CX P w) P w K mg base N_all_choices "all_choices" (defScope s_all_choices) f cdv A outer s H E) (E := E) rfl rfl rfl rfl
    have hp := passes_of (X := cxOf (L2.CX P w) P w K mg base N_all_choices "all_choices" (defScope s_all_choices) f cdv A outer s H E) rfl
    exact (pssd_one (psd_ret (pd_share (po_lc (own := [("room", 1)]) rfl sc_all_choices.nd (pid_range T.n_range (pd_len T.n_len (pd_ix (pd_var 0) pd_int))) (blkOk_by (own := [("room", 1)]) (N := N_all_choices) (sc := defScope s_all_choices) (by decide +kernel)) (fun _ _ _ _ _ => (pgd_name 1 sc_all_choices.nd)) (fun _ _ _ _ _ => ptsd_nil) (fun _ _ _ _ _ => (pd_call k_ways_from hr (by decide) takes0 (pad_cons (pd_var 0) (pad_cons (pd_var 1) pad_nil))))))))
abbrev s_least_starts : Stmt := topS 22
abbrev N_least_starts : List Str := ["arena"]
theorem sc_least_starts : FnScope N_least_starts ["arena"] (defScope s_least_starts) := ⟨rfl, rfl, rfl, by decide +kernel, rfl, by decide +kernel, by decide +kernel⟩
noncomputable def b_least_starts : Sm := (seqS (dropS (callD 1 m_check_arena (consD (varD 0) nilD)))
  (retS (callD 3 m_starts_with (consD (opD ixD (varD 0) (constD (.int 0))) (consD (opD ixD (varD 0) (constD (.int 1))) (consD (callD 1 m_all_choices (consD (varD 0) nilD)) nilD))))))
noncomputable def m_least_starts : Fn := fnD 0 false b_least_starts
theorem ok_least_starts (T : Tx K mg cls) (D : Df K mg "least_starts" s_least_starts ["arena"]) (k_check_arena : Kept P w K mg base cls "check_arena" ["arena"] false m_check_arena 3) (k_starts_with : Kept P w K mg base cls "starts_with" ["owners", "ways", "choices"] false m_starts_with 3) (k_all_choices : Kept P w K mg base cls "all_choices" ["arena"] false m_all_choices 2) : Kept P w K mg base cls "least_starts" ["arena"] false m_least_starts 4 :=
  fn_ok (body := b_least_starts) D sc_least_starts fun f cdv A outer s H E hr => by
    have tk := takes_of (X := cxOf (L2.CX P w) P w K mg base N_least_starts "least_starts" (defScope s_least_starts) f cdv A outer s H E) (E := E) rfl rfl rfl rfl
    have hp := passes_of (X := cxOf (L2.CX P w) P w K mg base N_least_starts "least_starts" (defScope s_least_starts) f cdv A outer s H E) rfl
    exact (pssd_cons (psd_expr (pd_call k_check_arena hr (by decide) tk (pad_cons (pd_var 0) pad_nil)))
    (pssd_one (psd_ret (pd_call k_starts_with hr (by decide) tk (pad_cons (pd_ix (pd_var 0) pd_int) (pad_cons (pd_ix (pd_var 0) pd_int) (pad_cons (pd_call k_all_choices hr (by decide) tk (pad_cons (pd_var 0) pad_nil)) pad_nil)))))))
abbrev s_check_player : Stmt := topS 23
abbrev N_check_player : List Str := ["player"]
theorem sc_check_player : FnScope N_check_player ["player"] (defScope s_check_player) := ⟨rfl, rfl, rfl, by decide +kernel, rfl, by decide +kernel, by decide +kernel⟩
noncomputable def b_check_player : Sm := (ifS (notT (truthD (callD 3 m_is_within (consD (varD 0) (consD (constD (.int 0)) (consD (constD (.int 1)) nilD))))))
  (raiseS 1)
  nextS)
noncomputable def m_check_player : Fn := fnD 0 false b_check_player
theorem ok_check_player (T : Tx K mg cls) (D : Df K mg "check_player" s_check_player ["player"]) (k_is_within : Kept P w K mg base cls "is_within" ["value", "least", "most"] false m_is_within 1) : Kept P w K mg base cls "check_player" ["player"] false m_check_player 2 :=
  fn_ok (body := b_check_player) D sc_check_player fun f cdv A outer s H E hr => by
    have tk := takes_of (X := cxOf (L2.CX P w) P w K mg base N_check_player "check_player" (defScope s_check_player) f cdv A outer s H E) (E := E) rfl rfl rfl rfl
    have hp := passes_of (X := cxOf (L2.CX P w) P w K mg base N_check_player "check_player" (defScope s_check_player) f cdv A outer s H E) rfl
    exact (pssd_one (psd_if (ptd_not (ptd_val (pd_call k_is_within hr (by decide) tk (pad_cons (pd_var 0) (pad_cons pd_int (pad_cons pd_int pad_nil))))))
    (pssd_one (psd_raise T.e_1 rfl tk))
    pssd_nil))
abbrev s_is_plan_of : Stmt := topS 24
abbrev N_is_plan_of : List Str := ["arena", "player", "plan", "room"]
theorem sc_is_plan_of : FnScope N_is_plan_of ["arena", "player", "plan"] (defScope s_is_plan_of) := ⟨rfl, rfl, rfl, by decide +kernel, rfl, by decide +kernel, by decide +kernel⟩
noncomputable def b_is_plan_of : Sm := (seqS (ifS (notT (truthD (callD 2 m_is_tuple (consD (varD 2) (consD (unD lenD (opD ixD (varD 0) (constD (.int 0)))) nilD)))))
  (retS (constD (.bool false)))
  nextS)
  (seqS (forS (rangeD (unD lenD (opD ixD (varD 0) (constD (.int 0))))) (nameT 3)
  (ifS (boolD (opD neD (opD ixD (opD ixD (varD 0) (constD (.int 0))) (varD 3)) (varD 1)))
  (ifS (boolD (unD notNoneD (opD ixD (varD 2) (varD 3))))
  (retS (constD (.bool false)))
  nextS)
  (ifS (orT (notT (truthD (callD 3 m_is_within (consD (opD ixD (varD 2) (varD 3)) (consD (constD (.int 0)) (consD (opD subD (unD lenD (opD ixD (varD 0) (constD (.int 1)))) (constD (.int 1))) nilD)))))) (boolD (opD neD (opD ixD (opD ixD (opD ixD (varD 0) (constD (.int 1))) (opD ixD (varD 2) (varD 3))) (constD (.int 0))) (varD 3))))
  (retS (constD (.bool false)))
  nextS)))
  (retS (constD (.bool true)))))
noncomputable def m_is_plan_of : Fn := fnD 1 false b_is_plan_of
theorem ok_is_plan_of (T : Tx K mg cls) (D : Df K mg "is_plan_of" s_is_plan_of ["arena", "player", "plan"]) (k_is_tuple : Kept P w K mg base cls "is_tuple" ["value", "size"] false m_is_tuple 1) (k_is_within : Kept P w K mg base cls "is_within" ["value", "least", "most"] false m_is_within 1) : Kept P w K mg base cls "is_plan_of" ["arena", "player", "plan"] false m_is_plan_of 2 :=
  fn_ok (body := b_is_plan_of) D sc_is_plan_of fun f cdv A outer s H E hr => by
    have tk := takes_of (X := cxOf (L2.CX P w) P w K mg base N_is_plan_of "is_plan_of" (defScope s_is_plan_of) f cdv A outer s H E) (E := E) rfl rfl rfl rfl
    have hp := passes_of (X := cxOf (L2.CX P w) P w K mg base N_is_plan_of "is_plan_of" (defScope s_is_plan_of) f cdv A outer s H E) rfl
    exact (pssd_cons (psd_if (ptd_not (ptd_val (pd_call k_is_tuple hr (by decide) tk (pad_cons (pd_var 2) (pad_cons (pd_len T.n_len (pd_ix (pd_var 0) pd_int)) pad_nil)))))
    (pssd_one (psd_ret pd_bl))
    pssd_nil)
    (pssd_cons (psd_for hp rfl (pid_range T.n_range (pd_len T.n_len (pd_ix (pd_var 0) pd_int))) (pgd_name 3 sc_is_plan_of.nd)
    (pssd_one (psd_if (ptd_cmp (c_ne hr) (pd_ix (pd_ix (pd_var 0) pd_int) (pd_var 3)) (pd_var 1))
    (pssd_one (psd_if (ptd_notN (pd_ix (pd_var 2) (pd_var 3)))
    (pssd_one (psd_ret pd_bl))
    pssd_nil))
    (pssd_one (psd_if (PW.pt (pwd_or (ptd_not (ptd_val (pd_call k_is_within hr (by decide) tk (pad_cons (pd_ix (pd_var 2) (pd_var 3)) (pad_cons pd_int (pad_cons (pd_sub (pd_len T.n_len (pd_ix (pd_var 0) pd_int)) pd_int) pad_nil)))))) (pwd_or1 (ptd_cmp (c_ne hr) (pd_ix (pd_ix (pd_ix (pd_var 0) pd_int) (pd_ix (pd_var 2) (pd_var 3))) pd_int) (pd_var 3)))))
    (pssd_one (psd_ret pd_bl))
    pssd_nil)))))
    (pssd_one (psd_ret pd_bl))))
abbrev s_is_plan : Stmt := topS 25
abbrev N_is_plan : List Str := ["arena", "player", "plan"]
theorem sc_is_plan : FnScope N_is_plan ["arena", "player", "plan"] (defScope s_is_plan) := ⟨rfl, rfl, rfl, by decide +kernel, rfl, by decide +kernel, by decide +kernel⟩
noncomputable def b_is_plan : Sm := (seqS (dropS (callD 1 m_check_arena (consD (varD 0) nilD)))
  (seqS (dropS (callD 1 m_check_player (consD (varD 1) nilD)))
  (retS (callD 3 m_is_plan_of (consD (varD 0) (consD (varD 1) (consD (varD 2) nilD)))))))
noncomputable def m_is_plan : Fn := fnD 0 false b_is_plan
theorem ok_is_plan (T : Tx K mg cls) (D : Df K mg "is_plan" s_is_plan ["arena", "player", "plan"]) (k_check_arena : Kept P w K mg base cls "check_arena" ["arena"] false m_check_arena 3) (k_check_player : Kept P w K mg base cls "check_player" ["player"] false m_check_player 2) (k_is_plan_of : Kept P w K mg base cls "is_plan_of" ["arena", "player", "plan"] false m_is_plan_of 2) : Kept P w K mg base cls "is_plan" ["arena", "player", "plan"] false m_is_plan 4 :=
  fn_ok (body := b_is_plan) D sc_is_plan fun f cdv A outer s H E hr => by
    have tk := takes_of (X := cxOf (L2.CX P w) P w K mg base N_is_plan "is_plan" (defScope s_is_plan) f cdv A outer s H E) (E := E) rfl rfl rfl rfl
    have hp := passes_of (X := cxOf (L2.CX P w) P w K mg base N_is_plan "is_plan" (defScope s_is_plan) f cdv A outer s H E) rfl
    exact (pssd_cons (psd_expr (pd_call k_check_arena hr (by decide) tk (pad_cons (pd_var 0) pad_nil)))
    (pssd_cons (psd_expr (pd_call k_check_player hr (by decide) tk (pad_cons (pd_var 1) pad_nil)))
    (pssd_one (psd_ret (pd_call k_is_plan_of hr (by decide) tk (pad_cons (pd_var 0) (pad_cons (pd_var 1) (pad_cons (pd_var 2) pad_nil))))))))
abbrev s_law_refused : Stmt := topS 41
abbrev N_law_refused : List Str := ["sort", "arena", "player"]
theorem sc_law_refused : FnScope N_law_refused ["sort", "arena", "player"] (defScope s_law_refused) := ⟨rfl, rfl, rfl, by decide +kernel, rfl, by decide +kernel, by decide +kernel⟩
noncomputable def b_law_refused : Sm := (tryM [(0, (retS (constD (.str (PySem.Str.ofString "arena"))))), (1, (retS (constD (.str (PySem.Str.ofString "argument")))))] 2 (seqS (ifS (boolD (opD eqD (varD 0) (constD (.str (PySem.Str.ofString "least")))))
  (dropS (callD 1 m_least_starts (consD (varD 1) nilD)))
  (dropS (callD 3 m_is_plan (consD (varD 1) (consD (varD 2) (consD (constD .none) nilD))))))
  (retS (constD (.str (PySem.Str.ofString ""))))))
noncomputable def m_law_refused : Fn := fnD 0 false b_law_refused
theorem ok_law_refused (T : Tx K mg cls) (D : Df K mg "_law_refused" s_law_refused ["sort", "arena", "player"]) (k_least_starts : Kept P w K mg base cls "least_starts" ["arena"] false m_least_starts 4) (k_is_plan : Kept P w K mg base cls "is_plan" ["arena", "player", "plan"] false m_is_plan 4) : Kept P w K mg base cls "_law_refused" ["sort", "arena", "player"] false m_law_refused 5 :=
  fn_ok (body := b_law_refused) D sc_law_refused fun f cdv A outer s H E hr => by
    have tk := takes_of (X := cxOf (L2.CX P w) P w K mg base N_law_refused "_law_refused" (defScope s_law_refused) f cdv A outer s H E) (E := E) rfl rfl rfl rfl
    have hp := passes_of (X := cxOf (L2.CX P w) P w K mg base N_law_refused "_law_refused" (defScope s_law_refused) f cdv A outer s H E) rfl
    exact (pssd_one (psd_tryM rfl rfl tk (fun W' pn xe tk' hp' => (pssd_cons (psd_if (ptd_cmp (c_eq hr) (pd_var 0) pd_str)
    (pssd_one (psd_expr (pd_call k_least_starts hr (by decide) tk' (pad_cons (pd_var 1) pad_nil))))
    (pssd_one (psd_expr (pd_call k_is_plan hr (by decide) tk' (pad_cons (pd_var 1) (pad_cons (pd_var 2) (pad_cons pd_non pad_nil)))))))
    (pssd_one (psd_ret pd_str)))) (hdsM_cons T.x_0 T.g_0 (fun _ _ _ => (pssd_one (psd_ret pd_str))) (hdsM_cons T.x_1 T.g_1 (fun _ _ _ => (pssd_one (psd_ret pd_str))) hdsM_nil))))
abbrev s_law_lesser : Stmt := topS 40
abbrev N_law_lesser : List Str := ["one", "other"]
theorem sc_law_lesser : FnScope N_law_lesser ["one", "other"] (defScope s_law_lesser) := ⟨rfl, rfl, rfl, by decide +kernel, rfl, by decide +kernel, by decide +kernel⟩
noncomputable def b_law_lesser : Sm := (seqS (ifS (orT (boolD (unD isNoneD (varD 0))) (boolD (unD isNoneD (varD 1))))
  (retS (ifD (boolD (unD isNoneD (varD 0))) (varD 1) (varD 0)))
  nextS)
  (retS (opD min2D (varD 0) (varD 1))))
noncomputable def m_law_lesser : Fn := fnD 0 false b_law_lesser
theorem ok_law_lesser (T : Tx K mg cls) (D : Df K mg "_law_lesser" s_law_lesser ["one", "other"])  : Kept P w K mg base cls "_law_lesser" ["one", "other"] false m_law_lesser 1 :=
  fn_ok (body := b_law_lesser) D sc_law_lesser fun f cdv A outer s H E hr => by
    have tk := takes_of (X := cxOf (L2.CX P w) P w K mg base N_law_lesser "_law_lesser" (defScope s_law_lesser) f cdv A outer s H E) (E := E) rfl rfl rfl rfl
    have hp := passes_of (X := cxOf (L2.CX P w) P w K mg base N_law_lesser "_law_lesser" (defScope s_law_lesser) f cdv A outer s H E) rfl
    exact (pssd_cons (psd_if (PW.pt (pwd_or (ptd_isN (pd_var 0)) (pwd_or1 (ptd_isN (pd_var 1)))))
    (pssd_one (psd_ret (pd_if (ptd_isN (pd_var 0)) (pd_var 1) (pd_var 0))))
    pssd_nil)
    (pssd_one (psd_ret (pd_min2 rfl T.n_min (pd_var 0) (pd_var 1)))))
abbrev s_law_greater : Stmt := topS 39
abbrev N_law_greater : List Str := ["one", "other"]
theorem sc_law_greater : FnScope N_law_greater ["one", "other"] (defScope s_law_greater) := ⟨rfl, rfl, rfl, by decide +kernel, rfl, by decide +kernel, by decide +kernel⟩
noncomputable def b_law_greater : Sm := (retS (ifD (orT (boolD (unD isNoneD (varD 0))) (boolD (unD isNoneD (varD 1)))) (constD .none) (opD max2D (varD 0) (varD 1))))
noncomputable def m_law_greater : Fn := fnD 0 false b_law_greater
theorem ok_law_greater (T : Tx K mg cls) (D : Df K mg "_law_greater" s_law_greater ["one", "other"])  : Kept P w K mg base cls "_law_greater" ["one", "other"] false m_law_greater 1 :=
  fn_ok (body := b_law_greater) D sc_law_greater fun f cdv A outer s H E hr => by
    have tk := takes_of (X := cxOf (L2.CX P w) P w K mg base N_law_greater "_law_greater" (defScope s_law_greater) f cdv A outer s H E) (E := E) rfl rfl rfl rfl
    have hp := passes_of (X := cxOf (L2.CX P w) P w K mg base N_law_greater "_law_greater" (defScope s_law_greater) f cdv A outer s H E) rfl
    exact (pssd_one (psd_ret (pd_if (PW.pt (pwd_or (ptd_isN (pd_var 0)) (pwd_or1 (ptd_isN (pd_var 1))))) pd_non (pd_max2 rfl T.n_max (pd_var 0) (pd_var 1)))))
abbrev s_kept_to : Stmt := topS 26
abbrev N_kept_to : List Str := ["arena", "plan", "choices", "room"]
theorem sc_kept_to : FnScope N_kept_to ["arena", "plan"] (defScope s_kept_to) := ⟨rfl, rfl, rfl, by decide +kernel, rfl, by decide +kernel, by decide +kernel⟩
noncomputable def b_kept_to : Sm := (seqS (setS 2 (callD 1 m_all_choices (consD (varD 0) nilD)))
  (retS (shareO (lcO (rangeD (unD lenD (opD ixD (varD 0) (constD (.int 0))))) [3] (nameT 3) yesT (ifD (boolD (unD isNoneD (opD ixD (varD 1) (varD 3)))) (opD ixD (varD 2) (varD 3)) (shareO (lstO (consD (opD ixD (varD 1) (varD 3)) nilD))))))))
noncomputable def m_kept_to : Fn := fnD 2 false b_kept_to
theorem ok_kept_to (T : Tx K mg cls) (D : Df K mg "kept_to" s_kept_to ["arena", "plan"]) (k_all_choices : Kept P w K mg base cls "all_choices" ["arena"] false m_all_choices 2) : Kept P w K mg base cls "kept_to" ["arena", "plan"] false m_kept_to 3 :=
  fn_ok (body := b_kept_to) D sc_kept_to fun f cdv A outer s H E hr => by
    have tk := takes_of (X := cxOf (L2.CX P w) P w K mg base N_kept_to "kept_to" (defScope s_kept_to) f cdv A outer s H E) (E := E) rfl rfl rfl rfl
    have hp := passes_of (X := cxOf (L2.CX P w) P w K mg base N_kept_to "kept_to" (defScope s_kept_to) f cdv A outer s H E) rfl
    exact (pssd_cons (psd_set 2 sc_kept_to.nd (pd_call k_all_choices hr (by decide) tk (pad_cons (pd_var 0) pad_nil)))
    (pssd_one (psd_ret (pd_share (po_lc (own := [("room", 3)]) rfl sc_kept_to.nd (pid_range T.n_range (pd_len T.n_len (pd_ix (pd_var 0) pd_int))) (blkOk_by (own := [("room", 3)]) (N := N_kept_to) (sc := defScope s_kept_to) (by decide +kernel)) (fun _ _ _ _ _ => (pgd_name 3 sc_kept_to.nd)) (fun _ _ _ _ _ => ptsd_nil) (fun _ _ _ _ _ => (pd_if (ptd_isN (pd_ix (pd_var 1) (pd_var 3))) (pd_ix (pd_var 2) (pd_var 3)) (pd_share (po_lst (pad_cons (pd_ix (pd_var 1) (pd_var 3)) pad_nil))))))))))
abbrev s_starts_by : Stmt := topS 27
abbrev N_starts_by : List Str := ["arena", "player", "plan"]
theorem sc_starts_by : FnScope N_starts_by ["arena", "player", "plan"] (defScope s_starts_by) := ⟨rfl, rfl, rfl, by decide +kernel, rfl, by decide +kernel, by decide +kernel⟩
noncomputable def b_starts_by : Sm := (seqS (dropS (callD 1 m_check_arena (consD (varD 0) nilD)))
  (seqS (dropS (callD 1 m_check_player (consD (varD 1) nilD)))
  (seqS (ifS (notT (truthD (callD 3 m_is_plan_of (consD (varD 0) (consD (varD 1) (consD (varD 2) nilD))))))
  (raiseS 1)
  nextS)
  (retS (callD 3 m_starts_with (consD (opD ixD (varD 0) (constD (.int 0))) (consD (opD ixD (varD 0) (constD (.int 1))) (consD (callD 2 m_kept_to (consD (varD 0) (consD (varD 2) nilD))) nilD))))))))
noncomputable def m_starts_by : Fn := fnD 0 false b_starts_by
theorem ok_starts_by (T : Tx K mg cls) (D : Df K mg "starts_by" s_starts_by ["arena", "player", "plan"]) (k_check_arena : Kept P w K mg base cls "check_arena" ["arena"] false m_check_arena 3) (k_check_player : Kept P w K mg base cls "check_player" ["player"] false m_check_player 2) (k_is_plan_of : Kept P w K mg base cls "is_plan_of" ["arena", "player", "plan"] false m_is_plan_of 2) (k_starts_with : Kept P w K mg base cls "starts_with" ["owners", "ways", "choices"] false m_starts_with 3) (k_kept_to : Kept P w K mg base cls "kept_to" ["arena", "plan"] false m_kept_to 3) : Kept P w K mg base cls "starts_by" ["arena", "player", "plan"] false m_starts_by 4 :=
  fn_ok (body := b_starts_by) D sc_starts_by fun f cdv A outer s H E hr => by
    have tk := takes_of (X := cxOf (L2.CX P w) P w K mg base N_starts_by "starts_by" (defScope s_starts_by) f cdv A outer s H E) (E := E) rfl rfl rfl rfl
    have hp := passes_of (X := cxOf (L2.CX P w) P w K mg base N_starts_by "starts_by" (defScope s_starts_by) f cdv A outer s H E) rfl
    exact (pssd_cons (psd_expr (pd_call k_check_arena hr (by decide) tk (pad_cons (pd_var 0) pad_nil)))
    (pssd_cons (psd_expr (pd_call k_check_player hr (by decide) tk (pad_cons (pd_var 1) pad_nil)))
    (pssd_cons (psd_if (ptd_not (ptd_val (pd_call k_is_plan_of hr (by decide) tk (pad_cons (pd_var 0) (pad_cons (pd_var 1) (pad_cons (pd_var 2) pad_nil))))))
    (pssd_one (psd_raise T.e_1 rfl tk))
    pssd_nil)
    (pssd_one (psd_ret (pd_call k_starts_with hr (by decide) tk (pad_cons (pd_ix (pd_var 0) pd_int) (pad_cons (pd_ix (pd_var 0) pd_int) (pad_cons (pd_call k_kept_to hr (by decide) tk (pad_cons (pd_var 0) (pad_cons (pd_var 2) pad_nil))) pad_nil)))))))))
abbrev s_law_kept : Stmt := topS 37
abbrev N_law_kept : List Str := ["owners", "ways", "plan", "k"]
theorem sc_law_kept : FnScope N_law_kept ["owners", "ways", "plan"] (defScope s_law_kept) := ⟨rfl, rfl, rfl, by decide +kernel, rfl, by decide +kernel, by decide +kernel⟩
noncomputable def b_law_kept : Sm := (retS (shareO (lcO (rangeD (unD lenD (varD 1))) [3] (nameT 3) (orT (boolD (unD isNoneD (opD ixD (varD 2) (opD ixD (opD ixD (varD 1) (varD 3)) (constD (.int 0)))))) (boolD (opD eqD (opD ixD (varD 2) (opD ixD (opD ixD (varD 1) (varD 3)) (constD (.int 0)))) (varD 3)))) (opD ixD (varD 1) (varD 3)))))
noncomputable def m_law_kept : Fn := fnD 1 false b_law_kept
theorem ok_law_kept (T : Tx K mg cls) (D : Df K mg "_law_kept" s_law_kept ["owners", "ways", "plan"])  : Kept P w K mg base cls "_law_kept" ["owners", "ways", "plan"] false m_law_kept 1 :=
  fn_ok (body := b_law_kept) D sc_law_kept fun f cdv A outer s H E hr => by
    have tk := takes_of (X := cxOf (L2.CX P w) P w K mg base N_law_kept "_law_kept" (defScope s_law_kept) f cdv A outer s H E) (E := E) rfl rfl rfl rfl
    have hp := passes_of (X := cxOf (L2.CX P w) P w K mg base N_law_kept "_law_kept" (defScope s_law_kept) f cdv A outer s H E) rfl
    exact (pssd_one (psd_ret (pd_share (po_lc (own := [("k", 3)]) rfl sc_law_kept.nd (pid_range T.n_range (pd_len T.n_len (pd_var 1))) (blkOk_by (own := [("k", 3)]) (N := N_law_kept) (sc := defScope s_law_kept) (by decide +kernel)) (fun _ _ _ _ _ => (pgd_name 3 sc_law_kept.nd)) (fun _ _ _ _ _ => (ptsd_one (PW.pt (pwd_or (ptd_isN (pd_ix (pd_var 2) (pd_ix (pd_ix (pd_var 1) (pd_var 3)) pd_int))) (pwd_or1 (ptd_cmp (c_eq hr) (pd_ix (pd_var 2) (pd_ix (pd_ix (pd_var 1) (pd_var 3)) pd_int)) (pd_var 3))))))) (fun _ _ _ _ _ => (pd_ix (pd_var 1) (pd_var 3)))))))
abbrev s_law_alone : Stmt := topS 38
abbrev N_law_alone : List Str := ["ways", "room", "here", "whole", "least", "seen", "way", "one"]
theorem sc_law_alone : FnScope N_law_alone ["ways", "room"] (defScope s_law_alone) := ⟨rfl, rfl, rfl, by decide +kernel, rfl, by decide +kernel, by decide +kernel⟩
noncomputable def b_law_alone : Sm := (seqS (setS 2 (varD 1))
  (seqS (setS 3 (constD (.int 0)))
  (seqS (setS 4 (constD (.int 0)))
  (seqS (setOS 5 dictO)
  (seqS (whileS (keyT true 5 (varD 2))
  (seqS (keyS 5 (varD 2) (varD 3))
  (seqS (setS 6 (opD ixD (shareO (lcO (itemsD (varD 0)) [7] (nameT 7) (boolD (opD eqD (opD ixD (varD 7) (constD (.int 0))) (varD 2))) (varD 7))) (constD (.int 0))))
  (seqS (setS 3 (opD addD (varD 3) (opD ixD (varD 6) (constD (.int 2)))))
  (seqS (setS 4 (opD min2D (varD 4) (varD 3)))
  (setS 2 (opD ixD (varD 6) (constD (.int 1)))))))))
  (retS (ifD (boolD (opD (cmpD fun i j => decide (i < j)) (varD 3) (keyE 5 (varD 2)))) (constD .none) (unD negD (varD 4)))))))))
noncomputable def m_law_alone : Fn := fnD 6 false b_law_alone
theorem ok_law_alone (T : Tx K mg cls) (D : Df K mg "_law_alone" s_law_alone ["ways", "room"])  : Kept P w K mg base cls "_law_alone" ["ways", "room"] false m_law_alone 1 :=
  fn_ok (body := b_law_alone) D sc_law_alone fun f cdv A outer s H E hr => by
    have tk := takes_of (X := cxOf (L2.CX P w) P w K mg base N_law_alone "_law_alone" (defScope s_law_alone) f cdv A outer s H E) (E := E) rfl rfl rfl rfl
    have hp := passes_of (X := cxOf (L2.CX P w) P w K mg base N_law_alone "_law_alone" (defScope s_law_alone) f cdv A outer s H E) rfl
    exact (pssd_cons (psd_set 2 sc_law_alone.nd (pd_var 1))
    (pssd_cons (psd_set 3 sc_law_alone.nd pd_int)
    (pssd_cons (psd_set 4 sc_law_alone.nd pd_int)
    (pssd_cons (psd_setO 5 sc_law_alone.nd po_dict)
    (pssd_cons (psd_while hp (ptd_keyNo 5 hr (pd_var 2))
    (pssd_cons (psd_key 5 hr (pd_var 2) (pd_var 3))
    (pssd_cons (psd_set 6 sc_law_alone.nd (pd_ix (pd_share (po_lc (own := [("one", 7)]) rfl sc_law_alone.nd (pid_seq (pd_var 0)) (blkOk_by (own := [("one", 7)]) (N := N_law_alone) (sc := defScope s_law_alone) (by decide +kernel)) (fun _ _ _ _ _ => (pgd_name 7 sc_law_alone.nd)) (fun _ _ _ _ _ => (ptsd_one (ptd_cmp (c_eq hr) (pd_ix (pd_var 7) pd_int) (pd_var 2)))) (fun _ _ _ _ _ => (pd_var 7)))) pd_int))
    (pssd_cons (psd_set 3 sc_law_alone.nd (pd_add (pd_var 3) (pd_ix (pd_var 6) pd_int)))
    (pssd_cons (psd_set 4 sc_law_alone.nd (pd_min2 rfl T.n_min (pd_var 4) (pd_var 3)))
    (pssd_one (psd_set 2 sc_law_alone.nd (pd_ix (pd_var 6) pd_int))))))))
    (pssd_one (psd_ret (pd_if (ptd_cmp c_lt (pd_var 3) (pd_key 5 hr (pd_var 2))) pd_non (pd_neg (pd_var 4))))))))))
abbrev s_law_kept_too : Stmt := topS 42
abbrev N_law_kept_too : List Str := ["owners", "ways", "plan", "other", "room"]
theorem sc_law_kept_too : FnScope N_law_kept_too ["owners", "ways", "plan", "other"] (defScope s_law_kept_too) := ⟨rfl, rfl, rfl, by decide +kernel, rfl, by decide +kernel, by decide +kernel⟩
noncomputable def b_law_kept_too : Sm := (retS (shareO (lcO (rangeD (unD lenD (varD 0))) [4] (nameT 4) yesT (opD ixD (varD 1) (ifD (boolD (opD eqD (opD ixD (varD 0) (varD 4)) (constD (.int 0)))) (opD ixD (varD 2) (varD 4)) (opD ixD (varD 3) (varD 4)))))))
noncomputable def m_law_kept_too : Fn := fnD 1 false b_law_kept_too
theorem ok_law_kept_too (T : Tx K mg cls) (D : Df K mg "_law_kept_too" s_law_kept_too ["owners", "ways", "plan", "other"])  : Kept P w K mg base cls "_law_kept_too" ["owners", "ways", "plan", "other"] false m_law_kept_too 1 :=
  fn_ok (body := b_law_kept_too) D sc_law_kept_too fun f cdv A outer s H E hr => by
    have tk := takes_of (X := cxOf (L2.CX P w) P w K mg base N_law_kept_too "_law_kept_too" (defScope s_law_kept_too) f cdv A outer s H E) (E := E) rfl rfl rfl rfl
    have hp := passes_of (X := cxOf (L2.CX P w) P w K mg base N_law_kept_too "_law_kept_too" (defScope s_law_kept_too) f cdv A outer s H E) rfl
    exact (pssd_one (psd_ret (pd_share (po_lc (own := [("room", 4)]) rfl sc_law_kept_too.nd (pid_range T.n_range (pd_len T.n_len (pd_var 0))) (blkOk_by (own := [("room", 4)]) (N := N_law_kept_too) (sc := defScope s_law_kept_too) (by decide +kernel)) (fun _ _ _ _ _ => (pgd_name 4 sc_law_kept_too.nd)) (fun _ _ _ _ _ => ptsd_nil) (fun _ _ _ _ _ => (pd_ix (pd_var 1) (pd_if (ptd_cmp (c_eq hr) (pd_ix (pd_var 0) (pd_var 4)) pd_int) (pd_ix (pd_var 2) (pd_var 4)) (pd_ix (pd_var 3) (pd_var 4)))))))))
abbrev s_law : Stmt := topS 43
abbrev N_law : List Str := ["script", "draws", "rooms", "arena", "prices", "player", "wrongs", "wrong", "owners", "ways", "mine", "theirs", "room", "plans", "plan", "tried", "value", "sure", "asked_v", "table", "row", "k", "right", "other", "worst", "one", "best"]
theorem sc_law : FnScope N_law ["script"] (defScope s_law) := ⟨rfl, rfl, rfl, by decide +kernel, rfl, by decide +kernel, by decide +kernel⟩
noncomputable def b_law : Sm := (seqS (setS 2 (opD addD (constD (.int 1)) (opD modD (callG 1 1 m_law_draw nilD) (constD (.int 5)))))
  (seqS (setS 3 (callG 2 1 m_law_arena (consD (varD 2) nilD)))
  (seqS (asgS (varD 3) (tupT (consT (nameT 8) (consT (nameT 9) nilT))))
  (seqS (setS 4 (callD 2 m_law_prices (consD (varD 8) (consD (varD 9) nilD))))
  (seqS (ifS (notT (truthD (callD 2 m_law_equal (consD (callD 1 m_least_starts (consD (varD 3) nilD)) (consD (varD 4) nilD)))))
  (retS (constD (.bool false)))
  nextS)
  (seqS (parS 10 11 (callD 3 m_law_plans (consD (varD 8) (consD (varD 9) (consD (constD (.int 0)) nilD)))) (callD 3 m_law_plans (consD (varD 8) (consD (varD 9) (consD (constD (.int 1)) nilD)))))
  (seqS (ifS (boolD (opD (cmpD fun i j => decide (i ≤ j)) (opD mulD (unD lenD (varD 10)) (unD lenD (varD 11))) (constD (.int 200))))
  (forS (rangeD (varD 2)) (nameT 12)
  (seqS (setS 17 (constD .none))
  (seqS (setS 18 (constD (.int 0)))
  (seqS (setOS 19 (lstO nilD))
  (seqS (forS (itemsD (varD 10)) (nameT 14)
  (seqS (setOS 20 (lstO nilD))
  (seqS (forS (itemsD (varD 11)) (nameT 23)
  (appS 20 (callD 2 m_law_alone (consD (callD 4 m_law_kept_too (consD (varD 8) (consD (varD 9) (consD (varD 14) (consD (varD 23) nilD))))) (consD (varD 12) nilD)))))
  (shutS 20 (appS 19 (varD 20))))))
  (shutS 19 (seqS (forS (itemsD (varD 19)) (nameT 20)
  (seqS (setS 24 (constD (.int 0)))
  (seqS (forS (itemsD (varD 20)) (nameT 25)
  (setS 24 (callD 2 m_law_greater (consD (varD 24) (consD (varD 25) nilD)))))
  (setS 17 (callD 2 m_law_lesser (consD (varD 17) (consD (varD 24) nilD)))))))
  (seqS (forS (rangeD (unD lenD (varD 11))) (nameT 21)
  (seqS (setS 26 (constD .none))
  (seqS (forS (itemsD (varD 19)) (nameT 20)
  (setS 26 (callD 2 m_law_lesser (consD (varD 26) (consD (opD ixD (varD 20) (varD 21)) nilD)))))
  (setS 18 (callD 2 m_law_greater (consD (varD 18) (consD (varD 26) nilD)))))))
  (ifS (orT (boolD (opD neD (varD 17) (opD ixD (varD 4) (varD 12)))) (boolD (opD neD (varD 18) (opD ixD (varD 4) (varD 12)))))
  (retS (constD (.bool false)))
  nextS)))))))))
  nextS)
  (seqS (forS (itemsD (tupD (consD (constD (.int 0)) (consD (constD (.int 1)) nilD)))) (nameT 5)
  (seqS (setS 13 (ifD (boolD (opD eqD (varD 5) (constD (.int 0)))) (varD 10) (varD 11)))
  (seqS (setS 14 (opD ixD (varD 13) (opD modD (callG 1 1 m_law_draw nilD) (unD lenD (varD 13)))))
  (seqS (setS 15 (shareO (lstO (consD (varD 14) (consD (slD (varD 14) (somePart (constD (.int 1))) noPart) (consD (opD addD (varD 14) (tupD (consD (constD .none) nilD))) (consD (unD listD (varD 14)) (consD (constD .none) (consD (unD tupleD (opD mulD (shareO (lstO (consD (constD .none) nilD))) (varD 2))) (consD (unD tupleD (opD mulD (shareO (lstO (consD (unD lenD (varD 9)) nilD))) (varD 2))) (consD (unD tupleD (opD mulD (shareO (lstO (consD (constD (.int 0)) nilD))) (varD 2))) (consD (unD tupleD (shareO (lcO (itemsD (varD 14)) [25] (nameT 25) yesT (ifD (boolD (opD eqD (varD 25) (constD (.int 1)))) (constD (.bool true)) (varD 25))))) nilD))))))))))))
  (seqS (forS (itemsD (varD 15)) (nameT 16)
  (seqS (setS 22 (andV (unD (isiD "tuple") (varD 16)) (andV (opD eqD (unD lenD (varD 16)) (varD 2)) (andV (opD eqD (unD lenD (shareO (lcO (itemsD (varD 16)) [25] (nameT 25) (truthD (unD (isiD "bool") (varD 25))) (varD 25)))) (constD (.int 0))) (opD inD (varD 16) (varD 13))))))
  (ifS (notT (truthD (callD 2 m_law_equal (consD (callD 3 m_is_plan (consD (varD 3) (consD (varD 5) (consD (varD 16) nilD)))) (consD (varD 22) nilD)))))
  (retS (constD (.bool false)))
  nextS)))
  (ifS (notT (truthD (callD 2 m_law_equal (consD (callD 3 m_starts_by (consD (varD 3) (consD (varD 5) (consD (varD 14) nilD)))) (consD (callD 2 m_law_prices (consD (varD 8) (consD (callD 3 m_law_kept (consD (varD 8) (consD (varD 9) (consD (varD 14) nilD)))) nilD))) nilD)))))
  (retS (constD (.bool false)))
  nextS))))))
  (seqS (setOS 6 (lstO (consD (constD .none) (consD (tupD (consD (varD 8) (consD (tupD nilD) nilD))) (consD (tupD (consD (tupD nilD) (consD (tupD nilD) nilD))) (consD (tupD (consD (opD addD (varD 8) (tupD (consD (constD (.int 2)) nilD))) (consD (varD 9) nilD))) (consD (tupD (consD (varD 8) (consD (opD addD (varD 9) (tupD (consD (tupD (consD (constD (.int 0)) (consD (varD 2) (consD (constD (.int 0)) nilD)))) nilD))) nilD))) (consD (tupD (consD (varD 8) (consD (opD addD (varD 9) (tupD (consD (tupD (consD (constD (.int 0)) (consD (constD (.int 0)) (consD (constD (.int 9)) nilD)))) nilD))) nilD))) nilD))))))))
  (seqS (appS 6 (tupD (consD (opD mulD (tupD (consD (constD (.int 0)) nilD)) (constD (.int 9))) (consD (unD tupleD (shareO (lcO (rangeD (constD (.int 9))) [21] (nameT 21) yesT (tupD (consD (varD 21) (consD (varD 21) (consD (constD (.int 0)) nilD))))))) nilD))))
  (shutS 6 (seqS (forS (itemsD (opD addD (varD 6) (shareO (lstO (consD (tupD (consD (varD 8) (consD (unD listD (varD 9)) nilD))) (consD (tupD (consD (tupD (consD (constD (.int 0)) (consD (constD (.int 0)) nilD))) (consD (tupD (consD (tupD (consD (constD (.int 0)) (consD (constD (.int 1)) (consD (constD (.int 0)) nilD)))) nilD)) nilD))) (consD (tupD (consD (varD 8) (consD (opD addD (varD 9) (tupD (consD (tupD (consD (constD (.int 0)) (consD (constD (.int 0)) nilD))) nilD))) nilD))) nilD))))))) (nameT 7)
  (ifS (boolD (opD neD (callD 3 m_law_refused (consD (constD (.str (PySem.Str.ofString "least"))) (consD (varD 7) (consD (constD .none) nilD)))) (constD (.str (PySem.Str.ofString "arena")))))
  (retS (constD (.bool false)))
  nextS))
  (seqS (forS (itemsD (tupD (consD (constD (.int 2)) (consD (unD negD (constD (.int 1))) (consD (constD (.bool true)) (consD (constD .none) nilD)))))) (nameT 7)
  (ifS (boolD (opD neD (callD 3 m_law_refused (consD (constD (.str (PySem.Str.ofString "plan"))) (consD (varD 3) (consD (varD 7) nilD)))) (constD (.str (PySem.Str.ofString "argument")))))
  (retS (constD (.bool false)))
  nextS))
  (retS (opD eqD (callD 3 m_law_refused (consD (constD (.str (PySem.Str.ofString "least"))) (consD (tupD (consD (varD 8) (consD (opD addD (varD 9) (opD mulD (tupD (consD (tupD (consD (constD (.int 0)) (consD (constD (.int 0)) (consD (constD (.int 0)) nilD)))) nilD)) (constD (.int 25)))) nilD))) (consD (constD .none) nilD)))) (constD (.str (PySem.Str.ofString "arena"))))))))))))))))))
theorem ok_law {f : Addr} {fd : FuncData} (T : Tx K mg cls) (F : Fun K "law" "law" s_law f fd) (kn : ∃ (f : Addr) (fd : FuncData), mg "_law_numbers" = some (.ref f) ∧ PySem.W.keepIn K (.ref f) = true ∧ L2.Binds K fd ["script"] [] ∧ FnOk P w K mg base (L2.CX P w) 2 f fd ["script"] (spNum K))
    (k_law_draw : Kept P w K mg base cls "_law_draw" ["draws"] true m_law_draw 2)
    (k_law_arena : Kept P w K mg base cls "_law_arena" ["draws", "rooms"] true m_law_arena 3)
    (k_law_prices : Kept P w K mg base cls "_law_prices" ["owners", "ways"] false m_law_prices 1)
    (k_law_equal : Kept P w K mg base cls "_law_equal" ["actual", "due"] false m_law_equal 40)
    (k_least_starts : Kept P w K mg base cls "least_starts" ["arena"] false m_least_starts 4)
    (k_law_plans : Kept P w K mg base cls "_law_plans" ["owners", "ways", "player"] false m_law_plans 1)
    (k_law_alone : Kept P w K mg base cls "_law_alone" ["ways", "room"] false m_law_alone 1)
    (k_law_kept_too : Kept P w K mg base cls "_law_kept_too" ["owners", "ways", "plan", "other"] false m_law_kept_too 1)
    (k_law_greater : Kept P w K mg base cls "_law_greater" ["one", "other"] false m_law_greater 1)
    (k_law_lesser : Kept P w K mg base cls "_law_lesser" ["one", "other"] false m_law_lesser 1)
    (k_is_plan : Kept P w K mg base cls "is_plan" ["arena", "player", "plan"] false m_is_plan 4)
    (k_starts_by : Kept P w K mg base cls "starts_by" ["arena", "player", "plan"] false m_starts_by 4)
    (k_law_kept : Kept P w K mg base cls "_law_kept" ["owners", "ways", "plan"] false m_law_kept 1)
    (k_law_refused : Kept P w K mg base cls "_law_refused" ["sort", "arena", "player"] false m_law_refused 5)
    (hm : ∀ ms : List Int, Small ms → ∃ g', b_law (.no :: .dr :: List.replicate 25 .no) (some (ms, 0)) = .rt (.bool true) g') : FnOk P w K mg base (L2.CX P w) 41 f fd ["script"] (spLaw K) :=
  law_ok (body := b_law) F sc_law (fun cdv A outer s H E hr => by
    have tk := takes_of (X := cxOf (L2.CX P w) P w K mg base N_law "law" (defScope s_law) f cdv A outer s H E) (E := E) rfl rfl rfl rfl
    have hp := passes_of (X := cxOf (L2.CX P w) P w K mg base N_law "law" (defScope s_law) f cdv A outer s H E) rfl
    obtain ⟨fn, fdn, hmn, hkn, hbn, Fn⟩ := kn
    exact (pss_cons (ps_set (i := 1) sc_law.nd rfl (by first | exact Or.inl rfl | exact Or.inr rfl) (pe_lst (pa_cons (pe_callS Fn (hr.mono (by decide)) (by rfl) hmn hkn hbn (fun σ => passAt tk σ) (pa_cons (pv 0) pa_nil)) (pa_cons pe_int pa_nil))))
      (pssd_cons (psd_set 2 sc_law.nd (pd_add pd_int (pd_mod (pd_callG 1 k_law_draw hr (by decide) tk pad_nil) pd_int)))
    (pssd_cons (psd_set 3 sc_law.nd (pd_callG 1 k_law_arena hr (by decide) tk (pad_cons (pd_var 2) pad_nil)))
    (pssd_cons (psd_asg (pd_var 3) (pgd_tup rfl (pgsd_cons (pgd_name 8 sc_law.nd) (pgsd_cons (pgd_name 9 sc_law.nd) pgsd_nil)) len2))
    (pssd_cons (psd_set 4 sc_law.nd (pd_call k_law_prices hr (by decide) tk (pad_cons (pd_var 8) (pad_cons (pd_var 9) pad_nil))))
    (pssd_cons (psd_if (ptd_not (ptd_val (pd_call k_law_equal hr (by decide) tk (pad_cons (pd_call k_least_starts hr (by decide) tk (pad_cons (pd_var 3) pad_nil)) (pad_cons (pd_var 4) pad_nil)))))
    (pssd_one (psd_ret pd_bl))
    pssd_nil)
    (pssd_cons (psd_par 10 11 rfl sc_law.nd (pd_call k_law_plans hr (by decide) tk (pad_cons (pd_var 8) (pad_cons (pd_var 9) (pad_cons pd_int pad_nil)))) (pd_call k_law_plans hr (by decide) tk (pad_cons (pd_var 8) (pad_cons (pd_var 9) (pad_cons pd_int pad_nil)))))
    (pssd_cons (psd_if (ptd_cmp c_le (pd_mul (pd_len T.n_len (pd_var 10)) (pd_len T.n_len (pd_var 11))) pd_int)
    (pssd_one (psd_for hp rfl (pid_range T.n_range (pd_var 2)) (pgd_name 12 sc_law.nd)
    (pssd_cons (psd_set 17 sc_law.nd pd_non)
    (pssd_cons (psd_set 18 sc_law.nd pd_int)
    (pssd_cons (psd_setO 19 sc_law.nd (po_lst pad_nil))
    (pssd_cons (psd_for hp rfl (pid_seq (pd_var 10)) (pgd_name 14 sc_law.nd)
    (pssd_cons (psd_setO 20 sc_law.nd (po_lst pad_nil))
    (pssd_cons (psd_for hp rfl (pid_seq (pd_var 11)) (pgd_name 23 sc_law.nd)
    (pssd_one (psd_app 20 (pd_call k_law_alone hr (by decide) tk (pad_cons (pd_call k_law_kept_too hr (by decide) tk (pad_cons (pd_var 8) (pad_cons (pd_var 9) (pad_cons (pd_var 14) (pad_cons (pd_var 23) pad_nil))))) (pad_cons (pd_var 12) pad_nil))))))
    (pssd_shut 20 (pssd_one (psd_app 19 (pd_var 20)))))))
    (pssd_shut 19 (pssd_cons (psd_for hp rfl (pid_seq (pd_var 19)) (pgd_name 20 sc_law.nd)
    (pssd_cons (psd_set 24 sc_law.nd pd_int)
    (pssd_cons (psd_for hp rfl (pid_seq (pd_var 20)) (pgd_name 25 sc_law.nd)
    (pssd_one (psd_set 24 sc_law.nd (pd_call k_law_greater hr (by decide) tk (pad_cons (pd_var 24) (pad_cons (pd_var 25) pad_nil))))))
    (pssd_one (psd_set 17 sc_law.nd (pd_call k_law_lesser hr (by decide) tk (pad_cons (pd_var 17) (pad_cons (pd_var 24) pad_nil))))))))
    (pssd_cons (psd_for hp rfl (pid_range T.n_range (pd_len T.n_len (pd_var 11))) (pgd_name 21 sc_law.nd)
    (pssd_cons (psd_set 26 sc_law.nd pd_non)
    (pssd_cons (psd_for hp rfl (pid_seq (pd_var 19)) (pgd_name 20 sc_law.nd)
    (pssd_one (psd_set 26 sc_law.nd (pd_call k_law_lesser hr (by decide) tk (pad_cons (pd_var 26) (pad_cons (pd_ix (pd_var 20) (pd_var 21)) pad_nil))))))
    (pssd_one (psd_set 18 sc_law.nd (pd_call k_law_greater hr (by decide) tk (pad_cons (pd_var 18) (pad_cons (pd_var 26) pad_nil))))))))
    (pssd_one (psd_if (PW.pt (pwd_or (ptd_cmp (c_ne hr) (pd_var 17) (pd_ix (pd_var 4) (pd_var 12))) (pwd_or1 (ptd_cmp (c_ne hr) (pd_var 18) (pd_ix (pd_var 4) (pd_var 12))))))
    (pssd_one (psd_ret pd_bl))
    pssd_nil)))))))))))
    pssd_nil)
    (pssd_cons (psd_for hp rfl (pid_seq (pd_tup (pad_cons pd_int (pad_cons pd_int pad_nil)))) (pgd_name 5 sc_law.nd)
    (pssd_cons (psd_set 13 sc_law.nd (pd_if (ptd_cmp (c_eq hr) (pd_var 5) pd_int) (pd_var 10) (pd_var 11)))
    (pssd_cons (psd_set 14 sc_law.nd (pd_ix (pd_var 13) (pd_mod (pd_callG 1 k_law_draw hr (by decide) tk pad_nil) (pd_len T.n_len (pd_var 13)))))
    (pssd_cons (psd_set 15 sc_law.nd (pd_share (po_lst (pad_cons (pd_var 14) (pad_cons (pd_slice (pd_var 14) (po_so pd_int) po_no) (pad_cons (pd_add (pd_var 14) (pd_tup (pad_cons pd_non pad_nil))) (pad_cons (pd_list T.n_list (pd_var 14)) (pad_cons pd_non (pad_cons (pd_tuple T.n_tuple (pd_mul (pd_share (po_lst (pad_cons pd_non pad_nil))) (pd_var 2))) (pad_cons (pd_tuple T.n_tuple (pd_mul (pd_share (po_lst (pad_cons (pd_len T.n_len (pd_var 9)) pad_nil))) (pd_var 2))) (pad_cons (pd_tuple T.n_tuple (pd_mul (pd_share (po_lst (pad_cons pd_int pad_nil))) (pd_var 2))) (pad_cons (pd_tuple T.n_tuple (pd_share (po_lc (own := [("one", 25)]) rfl sc_law.nd (pid_seq (pd_var 14)) (blkOk_by (own := [("one", 25)]) (N := N_law) (sc := defScope s_law) (by decide +kernel)) (fun _ _ _ _ _ => (pgd_name 25 sc_law.nd)) (fun _ _ _ _ _ => ptsd_nil) (fun _ _ _ _ _ => (pd_if (ptd_cmp (c_eq hr) (pd_var 25) pd_int) pd_bl (pd_var 25)))))) pad_nil))))))))))))
    (pssd_cons (psd_for hp rfl (pid_seq (pd_var 15)) (pgd_name 16 sc_law.nd)
    (pssd_cons (psd_set 22 sc_law.nd (pd_and (pd_isi kit_tuple T.n_isinstance T.n_tuple PyProof.Rows.boot_tuple (pd_var 16)) (pd_and (pd_cmp (c_eq hr) (pd_len T.n_len (pd_var 16)) (pd_var 2)) (pd_and (pd_cmp (c_eq hr) (pd_len T.n_len (pd_share (po_lc (own := [("one", 25)]) rfl sc_law.nd (pid_seq (pd_var 16)) (blkOk_by (own := [("one", 25)]) (N := N_law) (sc := defScope s_law) (by decide +kernel)) (fun _ _ _ _ _ => (pgd_name 25 sc_law.nd)) (fun _ _ _ _ _ => (ptsd_one (ptd_val (pd_isi kit_bool T.n_isinstance T.n_bool PyProof.Rows.boot_bool (pd_var 25))))) (fun _ _ _ _ _ => (pd_var 25))))) pd_int) (pd_one (pd_cmp (c_in hr) (pd_var 16) (pd_var 13)))))))
    (pssd_one (psd_if (ptd_not (ptd_val (pd_call k_law_equal hr (by decide) tk (pad_cons (pd_call k_is_plan hr (by decide) tk (pad_cons (pd_var 3) (pad_cons (pd_var 5) (pad_cons (pd_var 16) pad_nil)))) (pad_cons (pd_var 22) pad_nil)))))
    (pssd_one (psd_ret pd_bl))
    pssd_nil))))
    (pssd_one (psd_if (ptd_not (ptd_val (pd_call k_law_equal hr (by decide) tk (pad_cons (pd_call k_starts_by hr (by decide) tk (pad_cons (pd_var 3) (pad_cons (pd_var 5) (pad_cons (pd_var 14) pad_nil)))) (pad_cons (pd_call k_law_prices hr (by decide) tk (pad_cons (pd_var 8) (pad_cons (pd_call k_law_kept hr (by decide) tk (pad_cons (pd_var 8) (pad_cons (pd_var 9) (pad_cons (pd_var 14) pad_nil)))) pad_nil))) pad_nil)))))
    (pssd_one (psd_ret pd_bl))
    pssd_nil)))))))
    (pssd_cons (psd_setO 6 sc_law.nd (po_lst (pad_cons pd_non (pad_cons (pd_tup (pad_cons (pd_var 8) (pad_cons (pd_tup pad_nil) pad_nil))) (pad_cons (pd_tup (pad_cons (pd_tup pad_nil) (pad_cons (pd_tup pad_nil) pad_nil))) (pad_cons (pd_tup (pad_cons (pd_add (pd_var 8) (pd_tup (pad_cons pd_int pad_nil))) (pad_cons (pd_var 9) pad_nil))) (pad_cons (pd_tup (pad_cons (pd_var 8) (pad_cons (pd_add (pd_var 9) (pd_tup (pad_cons (pd_tup (pad_cons pd_int (pad_cons (pd_var 2) (pad_cons pd_int pad_nil)))) pad_nil))) pad_nil))) (pad_cons (pd_tup (pad_cons (pd_var 8) (pad_cons (pd_add (pd_var 9) (pd_tup (pad_cons (pd_tup (pad_cons pd_int (pad_cons pd_int (pad_cons pd_int pad_nil)))) pad_nil))) pad_nil))) pad_nil))))))))
    (pssd_cons (psd_app 6 (pd_tup (pad_cons (pd_mul (pd_tup (pad_cons pd_int pad_nil)) pd_int) (pad_cons (pd_tuple T.n_tuple (pd_share (po_lc (own := [("k", 21)]) rfl sc_law.nd (pid_range T.n_range pd_int) (blkOk_by (own := [("k", 21)]) (N := N_law) (sc := defScope s_law) (by decide +kernel)) (fun _ _ _ _ _ => (pgd_name 21 sc_law.nd)) (fun _ _ _ _ _ => ptsd_nil) (fun _ _ _ _ _ => (pd_tup (pad_cons (pd_var 21) (pad_cons (pd_var 21) (pad_cons pd_int pad_nil)))))))) pad_nil))))
    (pssd_shut 6 (pssd_cons (psd_for hp rfl (pid_seq (pd_add (pd_var 6) (pd_share (po_lst (pad_cons (pd_tup (pad_cons (pd_var 8) (pad_cons (pd_list T.n_list (pd_var 9)) pad_nil))) (pad_cons (pd_tup (pad_cons (pd_tup (pad_cons pd_int (pad_cons pd_int pad_nil))) (pad_cons (pd_tup (pad_cons (pd_tup (pad_cons pd_int (pad_cons pd_int (pad_cons pd_int pad_nil)))) pad_nil)) pad_nil))) (pad_cons (pd_tup (pad_cons (pd_var 8) (pad_cons (pd_add (pd_var 9) (pd_tup (pad_cons (pd_tup (pad_cons pd_int (pad_cons pd_int pad_nil))) pad_nil))) pad_nil))) pad_nil))))))) (pgd_name 7 sc_law.nd)
    (pssd_one (psd_if (ptd_cmp (c_ne hr) (pd_call k_law_refused hr (by decide) tk (pad_cons pd_str (pad_cons (pd_var 7) (pad_cons pd_non pad_nil)))) pd_str)
    (pssd_one (psd_ret pd_bl))
    pssd_nil)))
    (pssd_cons (psd_for hp rfl (pid_seq (pd_tup (pad_cons pd_int (pad_cons (pd_neg pd_int) (pad_cons pd_bl (pad_cons pd_non pad_nil)))))) (pgd_name 7 sc_law.nd)
    (pssd_one (psd_if (ptd_cmp (c_ne hr) (pd_call k_law_refused hr (by decide) tk (pad_cons pd_str (pad_cons (pd_var 3) (pad_cons (pd_var 7) pad_nil)))) pd_str)
    (pssd_one (psd_ret pd_bl))
    pssd_nil)))
    (pssd_one (psd_ret (pd_cmp (c_eq hr) (pd_call k_law_refused hr (by decide) tk (pad_cons pd_str (pad_cons (pd_tup (pad_cons (pd_var 8) (pad_cons (pd_add (pd_var 9) (pd_mul (pd_tup (pad_cons (pd_tup (pad_cons pd_int (pad_cons pd_int (pad_cons pd_int pad_nil)))) pad_nil)) pd_int)) pad_nil))) (pad_cons pd_non pad_nil)))) pd_str)))))))))))))))))) hm
end
end K

set_option Elab.async false
set_option linter.all false
set_option maxRecDepth 100000
set_option maxHeartbeats 400000
namespace K
open PySem DL PyProof.Rows
/-! the laws' common helpers: what their mirrors give -/
def mixI (n k : Int) : Int := (((n * 48271 + k * 69621 + 12345) % 2147483647) * (((n * 48271 + k * 69621 + 12345) % 2147483647) / 65536 + 3) + k) % 2147483647
theorem mixed_eq (n k : Int) (g : G) : m_law_mixed [.int n, .int k] g = .ok (.int (mixI n k)) g := by
  have h : (-18446744073709551616 < (n * 48271 + k * 69621 + 12345) % 2147483647 ∧ (n * 48271 + k * 69621 + 12345) % 2147483647 < 18446744073709551616) := by omega
  simp [m_law_mixed, b_law_mixed, h, mixI]
theorem mixed_ex : ∃ mx : Int → Int → Int, ∀ (n k : Int) (g : G), m_law_mixed [.int n, .int k] g = .ok (.int (mx n k)) g := ⟨mixI, mixed_eq⟩
theorem draw1 {ms : List Int} {m0 : Int} (j : Nat) (hj : j < ms.length) (h1 : L2.atI (ms.map PyData.int) (j : Int) = some (.int m0)) : m_law_draw [] (some (ms, (j : Int))) = .ok (.int m0) (some (ms, (j : Int) + 1)) := by
  simp [m_law_draw, b_law_draw, ixD, h1, hj]
theorem draw2 {ms : List Int} {m0 : Int} (mixI : Int → Int → Int) (mixed_eq : ∀ (n k : Int) (g : G), m_law_mixed [.int n, .int k] g = .ok (.int (mixI n k)) g) (j : Nat) (hj : ¬ j < ms.length) (h0 : 0 < ms.length) (h1 : L2.atI (ms.map PyData.int) 0 = some (.int m0)) : m_law_draw [] (some (ms, (j : Int))) = .ok (.int (mixI (mixI (1 + (j : Int) + 1009 * m0) j) 5 % 1000000)) (some (ms, (j : Int) + 1)) := by
  simp only [m_law_draw, b_law_draw, fnD, seqS, setS_ap, dr1]
  simp [ixD, h1, hj, h0]
  simp [mixed_eq]
theorem draw3 (mixI : Int → Int → Int) (mixed_eq : ∀ (n k : Int) (g : G), m_law_mixed [.int n, .int k] g = .ok (.int (mixI n k)) g) (i : Int) (hj : decide (i < 0) = false) : m_law_draw [] (some ([], i)) = .ok (.int (mixI (mixI (1 + i) i) 5 % 1000000)) (some ([], i + 1)) := by
  simp only [m_law_draw, b_law_draw, fnD, seqS, setS_ap, dr1]
  simp [ixD, hj]
  simp [mixed_eq]
/-- the draws' state: the numbers fixed, the count not below nought -/
def Dr (ms : List Int) (g : G) : Prop := ∃ i : Int, 0 ≤ i ∧ g = some (ms, i)
theorem draw_any {ms : List Int} {g : G} (hg : Dr ms g) : ∃ (r : Int) (g' : G), m_law_draw [] g = .ok (.int r) g' ∧ Dr ms g' := by
  obtain ⟨i, hi, rfl⟩ := hg
  obtain ⟨j, rfl⟩ : ∃ j : Nat, i = (j : Int) := ⟨i.toNat, by omega⟩
  obtain ⟨mx, hx⟩ := mixed_ex
  by_cases hj : j < ms.length
  · exact ⟨_, some (_, _), draw1 j hj (L2.atI_nat (by rw [List.getElem?_map, List.getElem?_eq_getElem hj]; rfl)), _, by omega, rfl⟩
  · by_cases h0 : 0 < ms.length
    · exact ⟨_, some (_, _), draw2 mx hx j hj h0 (L2.atI_nat (j := 0) (by rw [List.getElem?_map, List.getElem?_eq_getElem h0]; rfl)), _, by omega, rfl⟩
    · obtain rfl : ms = [] := List.eq_nil_of_length_eq_zero (by omega)
      exact ⟨_, some (_, _), draw3 mx hx j (decide_eq_false (by omega)), _, by omega, rfl⟩
theorem md {r n : Int} (h : 0 < n) : modD (.int r) (.int n) = some (.int (r % n)) := by simp [h]
theorem md_bd {r n : Int} (h : 0 < n) : 0 ≤ r % n ∧ r % n < n := ⟨Int.emod_nonneg _ (by omega), Int.emod_lt_of_pos _ h⟩
/-- data of a depth of at most n -/
def Dep : Nat → PyData → Prop
  | _, .none => True
  | _, .bool _ => True
  | _, .int _ => True
  | _, .str _ => True
  | n + 1, .list ds => ∀ d ∈ ds, Dep n d
  | n + 1, .tuple ds => ∀ d ∈ ds, Dep n d
  | _, _ => False
theorem all_refl {m : Fn} {g : G} {D : PyData} {ds : List PyData} (hD : D = .list ds ∨ D = .tuple ds) (hl : ds.length ≤ 1000000) (h : ∀ d ∈ ds, m [d, d] g = .ok (.bool true) g) : fnD 1 false (b_law_all_equal m) [D, D] g = .ok (.bool true) g := by
  have hlen : lenD D = some (.int ds.length) := by rcases hD with rfl | rfl <;> rfl
  have hix : ∀ k : Nat, (hk : k < ds.length) → ixD D (.int (0 + (k : Int))) = some ds[k] := fun k hk => by
    have e := atI_at (xs := ds) (i := 0 + (k : Int)) (j := k) (by omega) (List.getElem?_eq_getElem hk)
    rcases hD with rfl | rfl <;> exact e
  obtain ⟨ρ', g', h1, rfl, z, rfl⟩ := forD_all (t := nameT 2) (body := ifS (notT (truthD (callD 2 m (consD (opD ixD (varD 0) (varD 2)) (consD (opD ixD (varD 1) (varD 2)) nilD))))) (retS (constD (.bool false))) nextS) (fun k : Nat => PyData.int (0 + (k : Int)))
    (fun _ ρ g' => g' = g ∧ ∃ z, ρ = [.sh D, .sh D, z]) (List.range ds.length) (by
      rintro pre k post e ρ g' ⟨rfl, z, rfl⟩
      have hk : k < ds.length := by
        have : k ∈ List.range ds.length := by rw [e]; simp
        exact List.mem_range.mp this
      refine ⟨_, _, g', rfl, .inl ?_, rfl, .sh (.int (0 + (k : Int))), rfl⟩
      have hi := hix k hk
      have hm := h _ (List.getElem_mem hk)
      simp only [Int.zero_add] at hi
      simp [hi, hm]) (ρ := [.sh D, .sh D, .no]) (g := g) ⟨rfl, .no, rfl⟩
  have hb : (ds.length : Int) ≤ 1000000 ∧ -1000000 ≤ (ds.length : Int) := by omega
  have h2 := h1
  rw [show (List.range ds.length).map (fun k : Nat => PyData.int (0 + (k : Int))) = upFrom 0 ds.length from rfl] at h2
  rcases hD with rfl | rfl <;> simp [b_law_all_equal, hlen, big, hb, h2]
/-- no list or tuple in it is too long -/
def Nar : Nat → PyData → Prop
  | n + 1, .list ds => ds.length ≤ 1000000 ∧ ∀ d ∈ ds, Nar n d
  | n + 1, .tuple ds => ds.length ≤ 1000000 ∧ ∀ d ∈ ds, Nar n d
  | _, .none => True
  | _, .bool _ => True
  | _, .int _ => True
  | _, .str _ => True
  | _, _ => False
theorem eq_step {ds : List PyData} {D : PyData} {m : Fn} {g : G} (hD : D = .list ds ∨ D = .tuple ds) (h : m [D, D] g = .ok (.bool true) g) : fnD 0 false (b_law_equal m) [D, D] g = .ok (.bool true) g := by
  rcases hD with rfl | rfl <;> simp [b_law_equal, isT, eqD, neD, SeqAt.shaped, h]
theorem eq_refl : ∀ (n : Nat) (d : PyData) (g : G) (k : Nat), Nar n d → 2 * n + 1 ≤ k → eqA k [d, d] g = .ok (.bool true) g := by
  intro n
  induction n with
  | zero =>
    intro d g k hd hk
    obtain ⟨k, rfl⟩ : ∃ j, k = j + 1 := ⟨k - 1, by omega⟩
    unfold eqA
    cases d <;> first | (exact False.elim hd) | simp [b_law_equal, isT, eqD, SeqAt.shaped]
  | succ n ih =>
    intro d g k hd hk
    obtain ⟨k, rfl⟩ : ∃ j, k = j + 2 := ⟨k - 2, by omega⟩
    have go : ∀ ds, (d = .list ds ∨ d = .tuple ds) → ds.length ≤ 1000000 → (∀ e ∈ ds, Nar n e) → eqA (k + 2) [d, d] g = .ok (.bool true) g := fun ds hD hl hs => by
      unfold eqA
      refine eq_step hD ?_
      unfold eqB
      exact all_refl hD hl fun e he => ih e g k (hs e he) (by omega)
    cases d with
    | list ds => exact go ds (.inl rfl) hd.1 hd.2
    | tuple ds => exact go ds (.inr rfl) hd.1 hd.2
    | none => unfold eqA; simp [b_law_equal, isT, eqD, SeqAt.shaped]
    | bool b => unfold eqA; simp [b_law_equal, isT, eqD, SeqAt.shaped]
    | int i => unfold eqA; simp [b_law_equal, isT, eqD, SeqAt.shaped]
    | str t => unfold eqA; simp [b_law_equal, isT, eqD, SeqAt.shaped]
    | _ => exact False.elim hd
theorem equal_refl {d : PyData} (g : G) (h : Nar 7 d) : m_law_equal [d, d] g = .ok (.bool true) g := eq_refl 7 d g 16 h (by decide)
/-! the script's numbers -/
def NumR (n : Nat) (ρ : Nv) (g : G) : Prop := g = none ∧ ∃ (ms : List Int) (z2 z3 z4 : Sl), ρ = [.sc, .ow (.lst (ms.map PyData.int)), z2, z3, z4] ∧ ms.length ≤ n ∧ ∀ m ∈ ms, 0 ≤ m ∧ m < 1000000
theorem mem_snoc {ms : List Int} {a : Int} (h : ∀ m ∈ ms, 0 ≤ m ∧ m < 1000000) : ∀ m ∈ ms ++ [a % 1000000], 0 ≤ m ∧ m < 1000000 := fun m hm => by
  rcases List.mem_append.mp hm with z | z
  · exact h m z
  · obtain rfl := List.mem_singleton.mp z
    exact ⟨Int.emod_nonneg _ (by decide), Int.emod_lt_of_pos _ (by decide)⟩
theorem pow1018 : (10 : Int) ^ (18 : Int).toNat = 1000000000000000000 := by decide
theorem num_small (mx : Int → Int → Int) (hx : ∀ (n k : Int) (g : G), m_law_mixed [.int n, .int k] g = .ok (.int (mx n k)) g) {c : Int} {ms : List Int} {z2 z3 z4 : Sl} (hc : decide (1000000000000000000 ≤ c) = false) (hl : ms.length ≤ 4000) (hs : ∀ m ∈ ms, 0 ≤ m ∧ m < 1000000) :
    ∃ ρ', b_law_numbers [.sc, .ow (.lst (ms.map PyData.int)), .sh (.int c), z3, z4] none = .nx ρ' none ∧ NumR (ms.length + 60) ρ' none := by
  obtain ⟨ρ', g', h1, rfl, ms', z, rfl, h3, h4⟩ := forD_all (t := nameT 4) (body := appS 1 (opD modD (callD 2 m_law_mixed (consD (callD 2 m_law_mixed (consD (opD modD (varD 2) (constD (.int 2147483647))) (consD (varD 4) nilD))) (consD (opD addD (varD 4) (constD (.int 7))) nilD))) (constD (.int 1000000)))) (fun k : Nat => PyData.int (0 + (k : Int)))
    (fun pre ρ g' => g' = none ∧ ∃ (ms' : List Int) (z : Sl), ρ = [.sc, .ow (.lst (ms'.map PyData.int)), .sh (.int c), z3, z] ∧ ms'.length = ms.length + 1 + pre.length ∧ ∀ m ∈ ms', 0 ≤ m ∧ m < 1000000) (List.range 5) (by
      rintro pre k post e ρ g' ⟨rfl, ms', z, rfl, h1, h2⟩
      have hk : pre.length < 5 := by
        have := congrArg List.length e
        simp at this
        omega
      have hb : ms'.length < 1000000 := by omega
      refine ⟨_, _, none, rfl, .inl ?_, rfl, ms' ++ [mx (mx (c % 2147483647) k) (k + 7) % 1000000], .sh (.int (0 + (k : Int))), rfl, by simp; omega, mem_snoc h2⟩
      simp [hx, big, hb]) (ρ := [.sc, .ow (.lst ((ms ++ [c % 1000000]).map PyData.int)), .sh (.int c), z3, z4]) (g := none) ⟨rfl, _, _, rfl, by simp, mem_snoc hs⟩
  refine ⟨[.sc, .ow (.lst (ms'.map PyData.int)), .sh (.int c), z3, z], ?_, rfl, ms', .sh (.int c), z3, z, rfl, by rw [h3, List.length_range]; omega, h4⟩
  have hb : ms.length < 1000000 := by omega
  have h2 := h1
  rw [show (List.range 5).map (fun k : Nat => PyData.int (0 + (k : Int))) = upFrom 0 5 from rfl] at h2
  rw [List.map_append] at h2
  have h6 : appS 1 (opD modD (varD 2) (constD (.int 1000000))) [.sc, .ow (.lst (ms.map PyData.int)), .sh (.int c), z3, z4] none = .nx [.sc, .ow (.lst (ms.map PyData.int ++ [PyData.int (c % 1000000)])), .sh (.int c), z3, z4] none := by
    simp [big, hb]
  have h7 : boolD (opD (cmpD fun i j => decide (j ≤ i)) (varD 2) (opD powD (constD (.int 10)) (constD (.int 18)))) [.sc, .ow (.lst (ms.map PyData.int)), .sh (.int c), z3, z4] none = .ok false none := by
    simp [pow1018, hc]
  unfold b_law_numbers ifS
  rw [h7]
  show seqS _ _ _ _ = _
  unfold seqS
  rw [h6]
  show forS _ _ _ _ _ = _
  unfold forS
  rw [show rangeD (constD (.int 5)) [.sc, .ow (.lst (ms.map PyData.int ++ [PyData.int (c % 1000000)])), .sh (.int c), z3, z4] none = .ok (upFrom 0 5) none by simp [big]]
  exact h2
theorem num_big {c : Int} {ms : List Int} {z2 z3 z4 : Sl} (hc : decide (1000000000000000000 ≤ c) = true) (hl : ms.length ≤ 4000) (hs : ∀ m ∈ ms, 0 ≤ m ∧ m < 1000000) :
    ∃ ρ', b_law_numbers [.sc, .ow (.lst (ms.map PyData.int)), .sh (.int c), z3, z4] none = .nx ρ' none ∧ NumR (ms.length + 60) ρ' none := by
  obtain ⟨ρ', g', h1, rfl, ms', r, z, rfl, h3, h4⟩ := forD_all (t := nameT 4) (body := (ifS (boolD (opD (cmpD fun i j => decide (j < i)) (varD 3) (constD (.int 0))))
  (seqS (appS 1 (opD modD (varD 3) (constD (.int 1000000))))
  (setS 3 (opD fdivD (varD 3) (constD (.int 1000000)))))
  nextS)) (fun k : Nat => PyData.int (0 + (k : Int)))
    (fun pre ρ g' => g' = none ∧ ∃ (ms' : List Int) (r : Int) (z : Sl), ρ = [.sc, .ow (.lst (ms'.map PyData.int)), .sh (.int c), .sh (.int r), z] ∧ ms'.length ≤ ms.length + pre.length ∧ ∀ m ∈ ms', 0 ≤ m ∧ m < 1000000) (List.range 60) (by
      rintro pre k post e ρ g' ⟨rfl, ms', r, z, rfl, h1, h2⟩
      have hk : pre.length < 60 := by
        have := congrArg List.length e
        simp at this
        omega
      have hb : ms'.length < 1000000 := by omega
      by_cases hr : 0 < r
      · refine ⟨_, _, none, rfl, .inl ?_, rfl, ms' ++ [r % 1000000], r / 1000000, .sh (.int (0 + (k : Int))), rfl, by simp; omega, mem_snoc h2⟩
        simp [big, hb, hr]
      · refine ⟨_, _, none, rfl, .inl ?_, rfl, ms', r, .sh (.int (0 + (k : Int))), rfl, by simp; omega, h2⟩
        simp [big, hb, hr]) (ρ := [.sc, .ow (.lst (ms.map PyData.int)), .sh (.int c), .sh (.int c), z4]) (g := none) ⟨rfl, _, _, _, rfl, by simp, hs⟩
  refine ⟨[.sc, .ow (.lst (ms'.map PyData.int)), .sh (.int c), .sh (.int r), z], ?_, rfl, ms', .sh (.int c), .sh (.int r), z, rfl, by rw [List.length_range] at h3; exact h3, h4⟩
  have h2 := h1
  rw [show (List.range 60).map (fun k : Nat => PyData.int (0 + (k : Int))) = upFrom 0 60 from rfl] at h2
  have h7 : boolD (opD (cmpD fun i j => decide (j ≤ i)) (varD 2) (opD powD (constD (.int 10)) (constD (.int 18)))) [.sc, .ow (.lst (ms.map PyData.int)), .sh (.int c), z3, z4] none = .ok true none := by
    simp [pow1018, hc]
  unfold b_law_numbers ifS
  rw [h7]
  show seqS _ _ _ _ = _
  unfold seqS
  rw [show setS 3 (varD 2) [.sc, .ow (.lst (ms.map PyData.int)), .sh (.int c), z3, z4] none = .nx [.sc, .ow (.lst (ms.map PyData.int)), .sh (.int c), .sh (.int c), z4] none from rfl]
  show forS _ _ _ _ _ = _
  unfold forS
  rw [show rangeD (constD (.int 60)) [.sc, .ow (.lst (ms.map PyData.int)), .sh (.int c), .sh (.int c), z4] none = .ok (upFrom 0 60) none by simp [big]]
  exact h2
theorem numbers_ok (ns : List Int) (hn : ns.length ≤ 63) : ∃ (ms : List Int) (ρ' : Nv), Small ms ∧ forD t_law_numbers b_law_numbers (ns.map PyData.int) (.sc :: .ow (.lst []) :: List.replicate 3 .no) none = .nx ρ' none ∧ ρ'[1]? = some (.ow (.lst (ms.map PyData.int))) := by
  obtain ⟨mx, hx⟩ := mixed_ex
  obtain ⟨ρ', g', h1, rfl, ms, z2, z3, z4, rfl, h2, h3⟩ := forD_all (t := t_law_numbers) (body := b_law_numbers) PyData.int (fun pre ρ g => NumR (60 * pre.length) ρ g) ns (by
    rintro pre c post e ρ g ⟨rfl, ms, z2, z3, z4, rfl, h1, h2⟩
    have hk : pre.length < 63 := by
      have := congrArg List.length e
      simp at this
      omega
    have go : ∃ ρ', b_law_numbers [.sc, .ow (.lst (ms.map PyData.int)), .sh (.int c), z3, z4] none = .nx ρ' none ∧ NumR (ms.length + 60) ρ' none := by
      cases hc : decide (1000000000000000000 ≤ c) with
      | true => exact num_big (z2 := z2) hc (by omega) h2
      | false => exact num_small mx hx (z2 := z2) hc (by omega) h2
    obtain ⟨ρ', h3, _, ms', y2, y3, y4, rfl, h5, h6⟩ := go
    exact ⟨_, _, none, rfl, .inl h3, rfl, ms', y2, y3, y4, rfl, by simp; omega, h6⟩) (ρ := .sc :: .ow (.lst []) :: List.replicate 3 .no) (g := none) ⟨rfl, [], .no, .no, .no, rfl, by simp, fun _ h => nomatch h⟩
  exact ⟨ms, _, ⟨by omega, h3⟩, h1, rfl⟩
/-! stepping through a body that must end with a given answer -/
section
variable {d : PyData}
def Ends (s : Sm) (ρ : Nv) (g : G) (d : PyData) : Prop := ∃ g', s ρ g = .rt d g'
theorem go_seq {a b : Sm} {ρ ρ1 : Nv} {g g1 : G} (h : a ρ g = .nx ρ1 g1) (k : Ends b ρ1 g1 d) : Ends (seqS a b) ρ g d := by
  obtain ⟨g', k⟩ := k
  exact ⟨g', by unfold seqS; rw [h]; exact k⟩
theorem go_shut {b : Sm} {i : Nat} {ds : List PyData} {ρ ρ1 : Nv} {g : G} (h : ρ[i]? = some (.ow (.lst ds))) (h1 : ρ.set i (.sh (.list ds)) = ρ1) (k : Ends b ρ1 g d) : Ends (shutS i b) ρ g d := by
  obtain ⟨g', k⟩ := k
  exact ⟨g', by unfold shutS; rw [h]; show b (ρ.set i _) g = _; rw [h1]; exact k⟩
theorem if_no {c : Te} {s t : Sm} {ρ : Nv} {g g1 : G} (h : c ρ g = .ok false g1) : ifS c s t ρ g = t ρ g1 := by unfold ifS; rw [h]
theorem if_yes {c : Te} {s t : Sm} {ρ : Nv} {g g1 : G} (h : c ρ g = .ok true g1) : ifS c s t ρ g = s ρ g1 := by unfold ifS; rw [h]
theorem for_run {fi : Ar} {t : Tg} {b : Sm} {ds : List PyData} {ρ ρ1 : Nv} {g g1 g2 : G} (h : fi ρ g = .ok ds g1) (k : forD t b ds ρ g1 = .nx ρ1 g2) : forS fi t b ρ g = .nx ρ1 g2 := by unfold forS; rw [h]; exact k
end
end K

set_option Elab.async false
set_option linter.all false
set_option maxRecDepth 100000
set_option maxHeartbeats 400000
namespace K
open PySem DL PyProof.Rows
/-! ### arenas and least prices, plainly -/
abbrev W3 := Nat × Nat × Int
def leO : Option Int → Option Int → Prop
  | _, none => True
  | some a, some b => a ≤ b
  | none, some _ => False
theorem leO_refl : ∀ x : Option Int, leO x x
  | none => trivial
  | some a => Int.le_refl a
theorem leO_trans : ∀ {x y z : Option Int}, leO x y → leO y z → leO x z
  | _, _, none, _, _ => trivial
  | some a, some b, some c, h, k => Int.le_trans h k
  | none, some b, some c, h, _ => h.elim
  | _, none, some c, _, k => k.elim
theorem leO_anti : ∀ {x y : Option Int}, leO x y → leO y x → x = y
  | none, none, _, _ => rfl
  | some a, some b, h, k => by rw [Int.le_antisymm h k]
  | none, some _, h, _ => h.elim
  | some _, none, _, k => k.elim
theorem leO_some {x : Option Int} {m : Int} (h : leO x (some m)) : ∃ v, x = some v ∧ v ≤ m := by
  cases x with
  | none => exact h.elim
  | some v => exact ⟨v, rfl, h⟩
section
variable (o : Nat → Int) (ws : List W3) (n : Nat)
/-- with m in the purse at r all goes well at the next step, if p holds there -/
def Okp (p : Nat → Option Int) (r : Nat) (m : Int) : Prop :=
  if o r = 0 then ∃ w ∈ ws, w.1 = r ∧ leO (p w.2.1) (some (m + w.2.2)) else ∀ w ∈ ws, w.1 = r → leO (p w.2.1) (some (m + w.2.2))
structure Pre (cap : Int) (p : Nat → Option Int) : Prop where
  at_ : ∀ r, r < n → ∀ m, p r = some m → 0 ≤ m ∧ m ≤ cap ∧ Okp o ws p r m
structure IsL (cap : Int) (p : Nat → Option Int) : Prop extends Pre o ws n cap p where
  least : ∀ q, Pre o ws n cap q → ∀ r, r < n → leO (p r) (q r)
variable {o ws n}
theorem Okp.mono {p q : Nat → Option Int} {r : Nat} {m : Int} (hw : ∀ w ∈ ws, w.2.1 < n) (h : ∀ r, r < n → leO (p r) (q r)) (k : Okp o ws q r m) : Okp o ws p r m := by
  unfold Okp at k ⊢
  split
  · rename_i h0
    rw [if_pos h0] at k
    obtain ⟨w, h1, h2, h3⟩ := k
    exact ⟨w, h1, h2, leO_trans (h _ (hw w h1)) h3⟩
  · rename_i h0
    rw [if_neg h0] at k
    exact fun w h1 h2 => leO_trans (h _ (hw w h1)) (k w h1 h2)
theorem IsL.one {cap : Int} {p q : Nat → Option Int} (a : IsL o ws n cap p) (b : IsL o ws n cap q) : ∀ r, r < n → p r = q r := fun r hr => leO_anti (a.least q b.toPre r hr) (b.least p a.toPre r hr)
theorem Pre.widen {c d : Int} {p : Nat → Option Int} (h : c ≤ d) (a : Pre o ws n c p) : Pre o ws n d p := ⟨fun r hr m e => by
  obtain ⟨h1, h2, h3⟩ := a.at_ r hr m e
  exact ⟨h1, Int.le_trans h2 h, h3⟩⟩
/-- a smaller cap tells no less -/
theorem IsL.caps {c d : Int} {p q : Nat → Option Int} (h : c ≤ d) (a : IsL o ws n c p) (b : IsL o ws n d q) : ∀ r, r < n → leO (q r) (p r) := fun r hr => b.least p (a.toPre.widen h) r hr
/-! no finite price above the sum of the rooms' greatest losses -/
def sumTo (f : Nat → Int) : Nat → Int
  | 0 => 0
  | k + 1 => sumTo f k + f k
theorem sumTo_le {f g : Nat → Int} : ∀ k, (∀ r, r < k → f r ≤ g r) → sumTo f k ≤ sumTo g k
  | 0, _ => Int.le_refl _
  | k + 1, h => by
    have h1 := sumTo_le k fun r hr => h r (by omega)
    have h2 := h k (by omega)
    show sumTo f k + f k ≤ sumTo g k + g k
    omega
theorem sumTo_same {f g : Nat → Int} : ∀ k, (∀ r, r < k → f r = g r) → sumTo f k = sumTo g k
  | 0, _ => rfl
  | k + 1, h => by
    have h1 := sumTo_same k fun r hr => h r (by omega)
    have h2 := h k (by omega)
    show sumTo f k + f k = sumTo g k + g k
    omega
theorem sumTo_set {f : Nat → Int} {r0 : Nat} {v : Int} : ∀ k, r0 < k → sumTo (fun r => if r = r0 then v else f r) k = sumTo f k - f r0 + v
  | 0, h => by omega
  | k + 1, h => by
    show sumTo (fun r => if r = r0 then v else f r) k + (if k = r0 then v else f k) = sumTo f k + f k - f r0 + v
    by_cases e : k = r0
    · rw [if_pos e, sumTo_same (g := f) k fun r hr => if_neg (by omega)]
      subst e
      omega
    · rw [if_neg e, sumTo_set k (by omega)]
      omega
theorem sumTo_nonneg {f : Nat → Int} (k : Nat) (h : ∀ r, r < k → 0 ≤ f r) : 0 ≤ sumTo f k := by
  have := sumTo_le (f := fun _ => 0) k h
  have z : ∀ k, sumTo (fun _ => 0) k = 0 := fun k => by
    induction k with
    | zero => rfl
    | succ k ih => show sumTo (fun _ => 0) k + 0 = 0; omega
  rw [z] at this
  exact this
variable {ml : Nat → Int} {cap : Int} {p : Nat → Option Int}
/-- the losses of the explained rooms -/
def bE (ml : Nat → Int) (e : Nat → Bool) : Nat → Int := sumTo fun r => if e r = true then ml r else 0
theorem stuck (hml : ∀ r, 0 ≤ ml r) : ∀ (k : Nat) (e : Nat → Bool), sumTo (fun r => if e r = true then 0 else 1) n ≤ k → (∀ r, r < n → e r = true → ∀ m, p r = some m → m ≤ bE ml e n) →
    ∃ e : Nat → Bool, (∀ r, r < n → e r = true → ∀ m, p r = some m → m ≤ bE ml e n) ∧ ∀ r, r < n → e r = false → ∀ m, p r = some m → bE ml e n + ml r < m := by
  intro k
  induction k with
  | zero =>
    intro e hk he
    refine ⟨e, he, fun r hr h m hm => ?_⟩
    exfalso
    have := sumTo_set (f := fun r => if e r = true then 0 else 1) (r0 := r) (v := 0) n hr
    have h2 := sumTo_nonneg (f := fun x => if x = r then 0 else (if e x = true then 0 else 1)) n fun x _ => by split <;> (try split) <;> omega
    rw [this] at h2
    rw [h] at h2
    simp at h2
    omega
  | succ k ih =>
    intro e hk he
    by_cases hs : ∀ r, r < n → e r = false → ∀ m, p r = some m → bE ml e n + ml r < m
    · exact ⟨e, he, hs⟩
    · obtain ⟨r0, hs⟩ := Classical.not_forall.mp hs
      obtain ⟨hr0, hs⟩ := Classical.not_imp.mp hs
      obtain ⟨he0, hs⟩ := Classical.not_imp.mp hs
      obtain ⟨m0, hs⟩ := Classical.not_forall.mp hs
      obtain ⟨hm0, hs⟩ := Classical.not_imp.mp hs
      have hb : bE ml (fun r => if r = r0 then true else e r) n = bE ml e n + ml r0 := by
        have := sumTo_set (f := fun r => if e r = true then ml r else 0) (r0 := r0) (v := ml r0) n hr0
        unfold bE
        rw [sumTo_same (g := fun r => if r = r0 then ml r0 else (if e r = true then ml r else 0)) n fun r _ => by
          by_cases h : r = r0
          · subst h; simp
          · simp [h]]
        rw [this]
        simp only [he0, Bool.false_eq_true, if_false]
        omega
      have hk' : sumTo (fun r => if (if r = r0 then true else e r) = true then (0 : Int) else 1) n ≤ k := by
        have := sumTo_set (f := fun r => if e r = true then 0 else 1) (r0 := r0) (v := 0) n hr0
        rw [sumTo_same (g := fun r => if r = r0 then 0 else (if e r = true then 0 else 1)) n fun r _ => by
          by_cases h : r = r0
          · subst h; simp
          · simp [h]]
        rw [this]
        simp only [he0, Bool.false_eq_true, if_false]
        omega
      refine ih (fun r => if r = r0 then true else e r) hk' fun r hr h m hm => ?_
      rw [hb]
      by_cases h' : r = r0
      · subst h'
        rw [hm] at hm0
        cases hm0
        omega
      · simp only [if_neg h'] at h
        have := he r hr h m hm
        have := hml r0
        omega
theorem IsL.bound (hw : ∀ w ∈ ws, w.2.1 < n) (hml : ∀ r, 0 ≤ ml r) (hloss : ∀ w ∈ ws, -w.2.2 ≤ ml w.1) (L : IsL o ws n cap p) : ∀ r, r < n → ∀ m, p r = some m → m ≤ sumTo ml n := by
  obtain ⟨e, he, hs⟩ := stuck (p := p) (n := n) hml (sumTo (fun _ => 1) n).toNat (fun _ => false) (by
    have := sumTo_nonneg (f := fun _ => 1) n fun _ _ => by decide
    simp
    omega) fun _ _ h => by cases h
  have hbn : 0 ≤ bE ml e n := sumTo_nonneg n fun r _ => by split; exact hml r; exact Int.le_refl _
  have hbm : bE ml e n ≤ sumTo ml n := sumTo_le n fun r _ => by split; exact Int.le_refl _; exact hml r
  -- the unexplained lowered by one
  let q : Nat → Option Int := fun r => if e r = true then p r else (p r).map (· - 1)
  have q1 : ∀ r, e r = true → q r = p r := fun r h => if_pos h
  have q2 : ∀ r, e r = false → q r = (p r).map (· - 1) := fun r h => by show (if e r = true then _ else _) = _; rw [h]; rfl
  have qle : ∀ r, r < n → leO (q r) (p r) := fun r _ => by
    cases h : e r with
    | true => rw [q1 r h]; exact leO_refl _
    | false =>
      rw [q2 r h]
      cases p r with
      | none => trivial
      | some v => show v - 1 ≤ v; omega
  have stepq : ∀ r m, r < n → p r = some m → e r = false → ∀ w ∈ ws, w.1 = r → leO (p w.2.1) (some (m + w.2.2)) → leO (q w.2.1) (some (m - 1 + w.2.2)) := fun r m hr hm her w h1 h2 h3 => by
    obtain ⟨v, hv, hv2⟩ := leO_some h3
    cases h : e w.2.1 with
    | true =>
      rw [q1 _ h, hv]
      have a1 := he _ (hw w h1) h v hv
      have a2 := hs r hr her m hm
      have a3 := hloss w h1
      rw [h2] at a3
      show v ≤ m - 1 + w.2.2
      omega
    | false =>
      rw [q2 _ h, hv]
      show v - 1 ≤ m - 1 + w.2.2
      omega
  have P : Pre o ws n cap q := ⟨fun r hr m hm => by
    cases h : e r with
    | true =>
      rw [q1 r h] at hm
      obtain ⟨h1, h2, h3⟩ := L.at_ r hr m hm
      exact ⟨h1, h2, h3.mono hw qle⟩
    | false =>
      rw [q2 r h] at hm
      obtain ⟨v, hv, rfl⟩ := Option.map_eq_some_iff.mp hm
      obtain ⟨h1, h2, h3⟩ := L.at_ r hr v hv
      have a2 := hs r hr h v hv
      have a3 := hml r
      refine ⟨by omega, by omega, ?_⟩
      unfold Okp at h3 ⊢
      split
      · rename_i h0
        rw [if_pos h0] at h3
        obtain ⟨w, w1, w2, w3⟩ := h3
        exact ⟨w, w1, w2, stepq r v hr hv h w w1 w2 w3⟩
      · rename_i h0
        rw [if_neg h0] at h3
        exact fun w w1 w2 => stepq r v hr hv h w w1 w2 (h3 w w1 w2)⟩
  intro r hr m hm
  cases h : e r with
  | true => exact Int.le_trans (he r hr h m hm) hbm
  | false =>
    have := L.least q P r hr
    rw [q2 r h, hm] at this
    have : m ≤ m - 1 := this
    omega
/-- the cap of all losses is as good as a great one -/
theorem IsL.most (hw : ∀ w ∈ ws, w.2.1 < n) (hml : ∀ r, 0 ≤ ml r) (hloss : ∀ w ∈ ws, -w.2.2 ≤ ml w.1) (hc : sumTo ml n ≤ cap) (L : IsL o ws n cap p) : IsL o ws n (sumTo ml n) p :=
  ⟨⟨fun r hr m hm => by
    obtain ⟨h1, _, h3⟩ := L.at_ r hr m hm
    exact ⟨h1, L.bound hw hml hloss r hr m hm, h3⟩⟩, fun q hq => L.least q (hq.widen hc)⟩
end
end K

set_option Elab.async false
set_option linter.all false
set_option maxRecDepth 100000
set_option maxHeartbeats 400000
namespace K
open PySem DL PyProof.Rows
/-! ### least prices over a set of ways, without a cap; one way a room is enough for either player -/
section
variable {o : Nat → Int} {n : Nat}
def OkE (o : Nat → Int) (E : W3 → Prop) (p : Nat → Option Int) (r : Nat) (m : Int) : Prop :=
  if o r = 0 then ∃ w, E w ∧ w.1 = r ∧ leO (p w.2.1) (some (m + w.2.2)) else ∀ w, E w → w.1 = r → leO (p w.2.1) (some (m + w.2.2))
def PreE (o : Nat → Int) (E : W3 → Prop) (n : Nat) (p : Nat → Option Int) : Prop := ∀ r, r < n → ∀ m, p r = some m → 0 ≤ m ∧ OkE o E p r m
structure IsE (o : Nat → Int) (E : W3 → Prop) (n : Nat) (p : Nat → Option Int) : Prop where
  pre : PreE o E n p
  least : ∀ q, PreE o E n q → ∀ r, r < n → leO (p r) (q r)
theorem OkE.mono {E : W3 → Prop} {p q : Nat → Option Int} {r : Nat} {m m' : Int} (hm : m ≤ m') (h : ∀ w, E w → w.1 = r → leO (p w.2.1) (q w.2.1)) (k : OkE o E q r m) : OkE o E p r m' := by
  have up : ∀ w : W3, leO (q w.2.1) (some (m + w.2.2)) → leO (q w.2.1) (some (m' + w.2.2)) := fun w z => leO_trans z (show m + w.2.2 ≤ m' + w.2.2 by omega)
  unfold OkE at k ⊢
  split
  · rename_i h0
    rw [if_pos h0] at k
    obtain ⟨w, h1, h2, h3⟩ := k
    exact ⟨w, h1, h2, leO_trans (h w h1 h2) (up w h3)⟩
  · rename_i h0
    rw [if_neg h0] at k
    exact fun w h1 h2 => leO_trans (h w h1 h2) (up w (k w h1 h2))
theorem IsE.one {E : W3 → Prop} {p q : Nat → Option Int} (a : IsE o E n p) (b : IsE o E n q) : ∀ r, r < n → p r = q r := fun r hr => leO_anti (a.least q b.pre r hr) (b.least p a.pre r hr)
theorem least_nat {P : Nat → Prop} (h : ∃ k, P k) : ∃ k, P k ∧ ∀ j, j < k → ¬ P j := by
  obtain ⟨k, hk⟩ := h
  induction k using Nat.strongRecOn with
  | ind k ih =>
    by_cases h : ∃ j, j < k ∧ P j
    · obtain ⟨j, h1, h2⟩ := h
      exact ih j h1 h2
    · exact ⟨k, hk, fun j hj z => h ⟨j, hj, z⟩⟩
theorem IsE.ex (o : Nat → Int) (E : W3 → Prop) (n : Nat) (hw : ∀ w, E w → w.2.1 < n) : ∃ p, IsE o E n p := by
  have key : ∀ r, ∃ x : Option Int, (∀ q, PreE o E n q → r < n → leO x (q r)) ∧ ∀ m, x = some m → r < n → ∃ q, PreE o E n q ∧ q r = some m := by
    intro r
    by_cases hr : r < n
    · by_cases h : ∃ k : Nat, ∃ q, PreE o E n q ∧ q r = some (k : Int)
      · obtain ⟨k, ⟨q, h1, h2⟩, h3⟩ := least_nat h
        refine ⟨some (k : Int), fun q' hq' _ => ?_, fun m e _ => by cases e; exact ⟨q, h1, h2⟩⟩
        cases e : q' r with
        | none => trivial
        | some m =>
          have m0 := (hq' r hr m e).1
          by_cases hlt : (k : Int) ≤ m
          · exact hlt
          · exact absurd ⟨q', hq', by rw [e, show ((m.toNat : Nat) : Int) = m by omega]⟩ (h3 m.toNat (by omega))
      · refine ⟨none, fun q' hq' _ => ?_, fun m e => by cases e⟩
        cases e : q' r with
        | none => trivial
        | some m =>
          have m0 := (hq' r hr m e).1
          exact absurd ⟨m.toNat, q', hq', by rw [e, show ((m.toNat : Nat) : Int) = m by omega]⟩ h
    · exact ⟨none, fun _ _ z => absurd z hr, fun m e => by cases e⟩
  refine ⟨fun r => (key r).choose, fun r hr m hm => ?_, fun q hq r hr => (key r).choose_spec.1 q hq hr⟩
  obtain ⟨q, h1, h2⟩ := (key r).choose_spec.2 m hm hr
  obtain ⟨m0, h3⟩ := h1 r hr m h2
  exact ⟨m0, h3.mono (Int.le_refl _) fun w hw' _ => (key w.2.1).choose_spec.1 q h1 (hw w hw')⟩
/-- a player's ways left out -/
theorem IsE.fewer0 {E F : W3 → Prop} {p q : Nat → Option Int} (h : ∀ w, F w → E w) (h1 : ∀ w, E w → o w.1 ≠ 0 → F w) (a : IsE o E n p) (b : IsE o F n q) : ∀ r, r < n → leO (p r) (q r) := a.least q fun r hr m hm => by
  obtain ⟨m0, k⟩ := b.pre r hr m hm
  refine ⟨m0, ?_⟩
  unfold OkE at k ⊢
  split
  · rename_i h0
    rw [if_pos h0] at k
    obtain ⟨w, k1, k2, k3⟩ := k
    exact ⟨w, h w k1, k2, k3⟩
  · rename_i h0
    rw [if_neg h0] at k
    exact fun w k1 k2 => k w (h1 w k1 (by rw [k2]; exact h0)) k2
theorem IsE.fewer1 {E F : W3 → Prop} {p q : Nat → Option Int} (h : ∀ w, F w → E w) (h1 : ∀ w, E w → o w.1 = 0 → F w) (a : IsE o E n p) (b : IsE o F n q) : ∀ r, r < n → leO (q r) (p r) := b.least p fun r hr m hm => by
  obtain ⟨m0, k⟩ := a.pre r hr m hm
  refine ⟨m0, ?_⟩
  unfold OkE at k ⊢
  split
  · rename_i h0
    rw [if_pos h0] at k
    obtain ⟨w, k1, k2, k3⟩ := k
    exact ⟨w, h1 w k1 (by rw [k2]; exact h0), k2, k3⟩
  · rename_i h0
    rw [if_neg h0] at k
    exact fun w k1 k2 => k w (h w k1) k2
theorem IsE.same {E : W3 → Prop} {p q : Nat → Option Int} (hw : ∀ w, E w → w.2.1 < n) (a : IsE o E n p) (h : ∀ r, r < n → p r = q r) : IsE o E n q := by
  refine ⟨fun r hr m hm => ?_, fun q' hq' r hr => by rw [← h r hr]; exact a.least q' hq' r hr⟩
  rw [← h r hr] at hm
  obtain ⟨m0, k⟩ := a.pre r hr m hm
  exact ⟨m0, k.mono (Int.le_refl _) fun w hw' _ => by rw [h _ (hw w hw')]; exact leO_refl _⟩
/-- the player 0: one way a room keeps as well -/
theorem keep0 {E : W3 → Prop} {p : Nat → Option Int} (hw : ∀ w, E w → w.2.1 < n) (ne : ∀ r, r < n → ∃ w, E w ∧ w.1 = r) (a : IsE o E n p) : ∃ c : Nat → W3, (∀ r, r < n → E (c r) ∧ (c r).1 = r) ∧ IsE o (fun w => E w ∧ (o w.1 = 0 → w = c w.1)) n p := by
  have key : ∀ r, ∃ w : W3, r < n → E w ∧ w.1 = r ∧ (o r = 0 → ∀ m, p r = some m → leO (p w.2.1) (some (m + w.2.2))) := by
    intro r
    by_cases hr : r < n
    · cases e : p r with
      | none =>
        obtain ⟨w, h1, h2⟩ := ne r hr
        exact ⟨w, fun _ => ⟨h1, h2, fun _ m z => by cases z⟩⟩
      | some m =>
        by_cases h0 : o r = 0
        · obtain ⟨_, k⟩ := a.pre r hr m e
          unfold OkE at k
          rw [if_pos h0] at k
          obtain ⟨w, k1, k2, k3⟩ := k
          exact ⟨w, fun _ => ⟨k1, k2, fun _ m' z => by cases z; exact k3⟩⟩
        · obtain ⟨w, h1, h2⟩ := ne r hr
          exact ⟨w, fun _ => ⟨h1, h2, fun z => absurd z h0⟩⟩
    · exact ⟨(0, 0, 0), fun z => absurd z hr⟩
  refine ⟨fun r => (key r).choose, fun r hr => ⟨((key r).choose_spec hr).1, ((key r).choose_spec hr).2.1⟩, fun r hr m hm => ?_, fun q hq r hr => ?_⟩
  · obtain ⟨m0, k⟩ := a.pre r hr m hm
    refine ⟨m0, ?_⟩
    unfold OkE at k ⊢
    split
    · rename_i h0
      obtain ⟨c1, c2, c3⟩ := (key r).choose_spec hr
      exact ⟨(key r).choose, ⟨c1, fun _ => by simp only [c2]⟩, c2, c3 h0 m hm⟩
    · rename_i h0
      rw [if_neg h0] at k
      exact fun w k1 k2 => k w k1.1 k2
  · refine a.least q (fun r hr m hm => ?_) r hr
    obtain ⟨m0, k⟩ := hq r hr m hm
    refine ⟨m0, ?_⟩
    unfold OkE at k ⊢
    split
    · rename_i h0
      rw [if_pos h0] at k
      obtain ⟨w, k1, k2, k3⟩ := k
      exact ⟨w, k1.1, k2, k3⟩
    · rename_i h0
      rw [if_neg h0] at k
      exact fun w k1 k2 => k w ⟨k1, fun z => absurd (by rw [← k2]; exact z) h0⟩ k2
/-- the ways of one room left but for one -/
abbrev only (E : W3 → Prop) (v : Nat) (u : W3) : W3 → Prop := fun w => E w ∧ (w.1 = v → w = u)
def minO : Option Int → Option Int → Option Int
  | none, y => y
  | x, none => x
  | some a, some b => some (if a ≤ b then a else b)
theorem minO_l : ∀ x y, leO (minO x y) x
  | none, y => by cases y <;> trivial
  | some a, none => Int.le_refl a
  | some a, some b => by show (if a ≤ b then a else b) ≤ a; split <;> omega
theorem minO_r : ∀ x y, leO (minO x y) y
  | none, y => leO_refl y
  | some a, none => trivial
  | some a, some b => by show (if a ≤ b then a else b) ≤ b; split <;> omega
theorem minO_or : ∀ x y, minO x y = x ∨ minO x y = y
  | none, y => .inr rfl
  | some a, none => .inl rfl
  | some a, some b => by
    show some (if a ≤ b then a else b) = some a ∨ some (if a ≤ b then a else b) = some b
    split
    · exact .inl rfl
    · exact .inr rfl
theorem leO_total : ∀ x y : Option Int, leO x y ∨ leO y x
  | _, none => .inl trivial
  | none, some _ => .inr trivial
  | some a, some b => by rcases Int.le_total a b with h | h; exact .inl h; exact .inr h
/-- the greatest of some -/
theorem great_ex {α : Type} (f : α → Option Int) : ∀ l : List α, l ≠ [] → ∃ x ∈ l, ∀ y ∈ l, leO (f y) (f x)
  | [], h => absurd rfl h
  | [x], _ => ⟨x, List.mem_cons_self, fun y hy => by rw [List.mem_singleton.mp hy]; exact leO_refl _⟩
  | x :: y :: t, _ => by
    obtain ⟨z, hz, h⟩ := great_ex f (y :: t) (fun e => nomatch e)
    rcases leO_total (f x) (f z) with q | q
    · refine ⟨z, List.mem_cons_of_mem _ hz, fun u hu => ?_⟩
      rcases List.mem_cons.mp hu with e | e
      · rw [e]; exact q
      · exact h u e
    · refine ⟨x, List.mem_cons_self, fun u hu => ?_⟩
      rcases List.mem_cons.mp hu with e | e
      · rw [e]; exact leO_refl _
      · exact leO_trans (h u e) q
/-- the player 1: at one room one way spoils as much -/
theorem spoil_room {E : W3 → Prop} {p : Nat → Option Int} {v : Nat} (hv : v < n) (h1 : o v ≠ 0) (hw : ∀ w, E w → w.2.1 < n) (ws : List W3) (hl : ∀ w, E w → w ∈ ws) (ne : ∃ w, E w ∧ w.1 = v) (a : IsE o E n p) : ∃ u, E u ∧ u.1 = v ∧ IsE o (only E v u) n p := by
  have hwo : ∀ u w, only E v u w → w.2.1 < n := fun u w z => hw w z.1
  have hQ : ∀ u, ∃ q, IsE o (only E v u) n q := fun u => IsE.ex o _ n (hwo u)
  let Q : W3 → Nat → Option Int := fun u => (hQ u).choose
  have HQ : ∀ u, IsE o (only E v u) n (Q u) := fun u => (hQ u).choose_spec
  have hcl : ∃ l : List W3, l ≠ [] ∧ ∀ w, w ∈ l ↔ E w ∧ w.1 = v := by
    classical
    refine ⟨ws.filter fun w => decide (E w ∧ w.1 = v), fun z => ?_, fun w => ?_⟩
    · obtain ⟨w, k1, k2⟩ := ne
      exact (List.filter_eq_nil_iff.mp z) w (hl w k1) (decide_eq_true ⟨k1, k2⟩)
    · rw [List.mem_filter]
      constructor
      · intro z; exact of_decide_eq_true z.2
      · intro z; exact ⟨hl w z.1, decide_eq_true z⟩
  obtain ⟨l, lne, lm⟩ := hcl
  obtain ⟨u, hu, hmax⟩ := great_ex (fun w => Q w v) l lne
  obtain ⟨hEu, huv⟩ := (lm u).mp hu
  refine ⟨u, hEu, huv, ?_⟩
  have R := HQ u
  -- R is a price for all ways
  have PR : PreE o E n (Q u) := by
    intro r hr m hm
    obtain ⟨m0, k⟩ := R.pre r hr m hm
    refine ⟨m0, ?_⟩
    unfold OkE at k ⊢
    split
    · rename_i h0
      rw [if_pos h0] at k
      obtain ⟨w, k1, k2, k3⟩ := k
      exact ⟨w, k1.1, k2, k3⟩
    · rename_i h0
      rw [if_neg h0] at k
      intro w k1 k2
      by_cases hrv : r = v
      · subst hrv
        -- the way w asks no more than u
        have hwl : w ∈ l := (lm w).mpr ⟨k1, k2⟩
        have hle := hmax w hwl
        simp only [hm] at hle
        obtain ⟨y, hy, hyx⟩ := leO_some hle
        have S := HQ w
        obtain ⟨y0, ky⟩ := S.pre r hr y hy
        unfold OkE at ky
        rw [if_neg h0] at ky
        have ky := ky w ⟨k1, fun _ => rfl⟩ k2
        obtain ⟨z, hz, hzy⟩ := leO_some ky
        -- the lesser of both
        let T : Nat → Option Int := fun x => minO (Q u x) ((Q w x).map (· + (m - y)))
        have PT : PreE o (only E r u) n T := by
          intro x hx t ht
          rcases minO_or (Q u x) ((Q w x).map (· + (m - y))) with e | e
          · have e2 : Q u x = some t := by rw [← e]; exact ht
            obtain ⟨t0, kt⟩ := R.pre x hx t e2
            exact ⟨t0, kt.mono (Int.le_refl _) fun _ _ _ => minO_l _ _⟩
          · have e2 : (Q w x).map (· + (m - y)) = some t := by rw [← e]; exact ht
            obtain ⟨b, hb, rfl⟩ := Option.map_eq_some_iff.mp e2
            by_cases hxr : x = r
            · subst hxr
              rw [hy] at hb
              cases hb
              obtain ⟨t0, kt⟩ := R.pre x hx m hm
              refine ⟨by omega, ?_⟩
              exact kt.mono (by omega) fun _ _ _ => minO_l _ _
            · obtain ⟨b0, kb⟩ := S.pre x hx b hb
              refine ⟨by omega, ?_⟩
              have shift : ∀ g : W3, leO (Q w g.2.1) (some (b + g.2.2)) → leO (T g.2.1) (some (b + (m - y) + g.2.2)) := fun g hg => by
                obtain ⟨c, hc, hcb⟩ := leO_some hg
                refine leO_trans (minO_r _ _) ?_
                rw [hc]
                show c + (m - y) ≤ b + (m - y) + g.2.2
                omega
              unfold OkE at kb ⊢
              split
              · rename_i g0
                rw [if_pos g0] at kb
                obtain ⟨g, g1, g2, g3⟩ := kb
                exact ⟨g, ⟨g1.1, fun zz => absurd (g2.symm.trans zz) hxr⟩, g2, shift g g3⟩
              · rename_i g0
                rw [if_neg g0] at kb
                exact fun g g1 g2 => shift g (kb g ⟨g1.1, fun zz => absurd (g2.symm.trans zz) hxr⟩ g2)
        have fin := R.least T PT w.2.1 (hw w k1)
        refine leO_trans fin (leO_trans (minO_r _ _) ?_)
        rw [hz]
        show z + (m - y) ≤ m + w.2.2
        omega
      · exact k w ⟨k1, fun zz => absurd (k2.symm.trans zz) hrv⟩ k2
  have e : ∀ r, r < n → Q u r = p r := fun r hr => by
    refine leO_anti ?_ (a.least _ PR r hr)
    exact IsE.fewer1 (E := E) (F := only E v u) (fun w z => z.1) (fun w z1 z2 => ⟨z1, fun zz => absurd (by rw [← zz]; exact z2) h1⟩) a R r hr
  exact R.same (hwo u) e
/-- the player 1: one way a room spoils as much -/
theorem spoil1 {E : W3 → Prop} {p : Nat → Option Int} (hw : ∀ w, E w → w.2.1 < n) (ws : List W3) (hl : ∀ w, E w → w ∈ ws) (ne : ∀ r, r < n → ∃ w, E w ∧ w.1 = r) (a : IsE o E n p) : ∃ c : Nat → W3, (∀ r, r < n → E (c r) ∧ (c r).1 = r) ∧ IsE o (fun w => E w ∧ (w.1 < n → o w.1 ≠ 0 → w = c w.1)) n p := by
  have key : ∀ k, k ≤ n → ∃ c : Nat → W3, (∀ r, r < n → E (c r) ∧ (c r).1 = r) ∧ IsE o (fun w => E w ∧ (w.1 < k → o w.1 ≠ 0 → w = c w.1)) n p := by
    intro k
    induction k with
    | zero =>
      intro _
      have : ∀ r, ∃ w : W3, r < n → E w ∧ w.1 = r := fun r => by
        by_cases hr : r < n
        · obtain ⟨w, h⟩ := ne r hr; exact ⟨w, fun _ => h⟩
        · exact ⟨(0, 0, 0), fun z => absurd z hr⟩
      refine ⟨fun r => (this r).choose, fun r hr => (this r).choose_spec hr, ?_⟩
      have e : (fun w : W3 => E w ∧ (w.1 < 0 → o w.1 ≠ 0 → w = (this w.1).choose)) = E := by
        funext w
        exact propext ⟨fun z => z.1, fun z => ⟨z, fun h => absurd h (Nat.not_lt_zero _)⟩⟩
      rw [e]; exact a
    | succ k ih =>
      intro hk
      obtain ⟨c, hc, A⟩ := ih (by omega)
      by_cases h1 : o k = 0
      · refine ⟨c, hc, ?_⟩
        have e : (fun w : W3 => E w ∧ (w.1 < k + 1 → o w.1 ≠ 0 → w = c w.1)) = fun w => E w ∧ (w.1 < k → o w.1 ≠ 0 → w = c w.1) := by
          funext w
          refine propext ⟨fun z => ⟨z.1, fun h => z.2 (by omega)⟩, fun z => ⟨z.1, fun h h2 => ?_⟩⟩
          by_cases hwk : w.1 = k
          · exact absurd (by rw [hwk]; exact h1) h2
          · exact z.2 (by omega) h2
        rw [e]; exact A
      · obtain ⟨u, hu, huk, B⟩ := spoil_room (v := k) (by omega) h1 (fun w z => hw w z.1) ws (fun w z => hl w z.1) (by
          obtain ⟨w, w1, w2⟩ := ne k (by omega)
          exact ⟨w, ⟨w1, fun z => absurd w2 (by omega)⟩, w2⟩) A
        refine ⟨fun r => if r = k then u else c r, fun r hr => ?_, ?_⟩
        · by_cases hrk : r = k
          · simp only [if_pos hrk]; exact ⟨hu.1, by rw [huk, hrk]⟩
          · simp only [if_neg hrk]; exact hc r hr
        · have e : (fun w : W3 => E w ∧ (w.1 < k + 1 → o w.1 ≠ 0 → w = if w.1 = k then u else c w.1)) = only (fun w => E w ∧ (w.1 < k → o w.1 ≠ 0 → w = c w.1)) k u := by
            funext w
            refine propext ⟨fun z => ⟨⟨z.1, fun h h2 => ?_⟩, fun h => ?_⟩, fun z => ⟨z.1.1, fun h h2 => ?_⟩⟩
            · have := z.2 (by omega) h2
              rwa [if_neg (by omega)] at this
            · have := z.2 (by omega) (by rw [h]; exact h1)
              rwa [if_pos h] at this
            · by_cases hwk : w.1 = k
              · rw [if_pos hwk]; exact z.2 hwk
              · rw [if_neg hwk]; exact z.1.2 (by omega) h2
          rw [e]; exact B
  exact key n (Nat.le_refl _)
end
section
variable {o : Nat → Int} {ws : List W3} {n : Nat}
theorem bound_ex (p : Nat → Option Int) : ∀ n : Nat, ∃ D : Int, ∀ r, r < n → ∀ m, p r = some m → m ≤ D
  | 0 => ⟨0, fun r h => absurd h (Nat.not_lt_zero _)⟩
  | n + 1 => by
    obtain ⟨D, h⟩ := bound_ex p n
    cases e : p n with
    | none => exact ⟨D, fun r hr m hm => by
        by_cases q : r = n
        · subst q; rw [e] at hm; cases hm
        · exact h r (by omega) m hm⟩
    | some v => exact ⟨max D v, fun r hr m hm => by
        by_cases q : r = n
        · subst q; rw [e] at hm; cases hm; omega
        · have := h r (by omega) m hm; omega⟩
theorem ok_same {p : Nat → Option Int} {r : Nat} {m : Int} : Okp o ws p r m ↔ OkE o (fun w => w ∈ ws) p r m := Iff.rfl
/-- least with a cap of all losses: least of all -/
theorem IsL.toE {ml : Nat → Int} {cap : Int} {p : Nat → Option Int} (hw : ∀ w ∈ ws, w.2.1 < n) (hml : ∀ r, 0 ≤ ml r) (hloss : ∀ w ∈ ws, -w.2.2 ≤ ml w.1) (hc : sumTo ml n ≤ cap) (L : IsL o ws n cap p) : IsE o (fun w => w ∈ ws) n p := by
  obtain ⟨P, hP⟩ := IsE.ex o (fun w => w ∈ ws) n hw
  obtain ⟨D, hD⟩ := bound_ex P n
  have LP : IsL o ws n D P := ⟨⟨fun r hr m hm => ⟨(hP.pre r hr m hm).1, hD r hr m hm, (hP.pre r hr m hm).2⟩⟩, fun q hq r hr => hP.least q (fun r hr m hm => ⟨(hq.at_ r hr m hm).1, (hq.at_ r hr m hm).2.2⟩) r hr⟩
  have hb := LP.bound hw hml hloss
  have h1 : ∀ r, r < n → leO (p r) (P r) := L.least P ⟨fun r hr m hm => ⟨(hP.pre r hr m hm).1, Int.le_trans (hb r hr m hm) hc, (hP.pre r hr m hm).2⟩⟩
  exact ⟨fun r hr m hm => ⟨(L.at_ r hr m hm).1, (L.at_ r hr m hm).2.2⟩, fun q hq r hr => leO_trans (h1 r hr) (hP.least q hq r hr)⟩
end
end K

set_option Elab.async false
set_option linter.all false
set_option maxRecDepth 100000
set_option maxHeartbeats 400000
namespace K
open PySem DL PyProof.Rows
@[simp] theorem upFrom_len (lo : Int) (n : Nat) : (upFrom lo n).length = n := by simp [upFrom]
/-! ### arenas as data -/
def encW3 (w : W3) : PyData := .tuple [.int (w.1 : Int), .int (w.2.1 : Int), .int w.2.2]
def encV : Option Int → PyData
  | none => .none
  | some i => .int i
abbrev natD (k : Nat) : PyData := .int (k : Int)
def encA (os : List Int) (ws : List W3) : PyData := .tuple [.tuple (os.map PyData.int), .tuple (ws.map encW3)]
structure Va (os : List Int) (ws : List W3) : Prop where
  n1 : 1 ≤ os.length
  n2 : os.length ≤ 8
  o : ∀ x ∈ os, x = 0 ∨ x = 1
  l1 : 1 ≤ ws.length
  l2 : ws.length ≤ 24
  w : ∀ w ∈ ws, w.1 < os.length ∧ w.2.1 < os.length ∧ -8 ≤ w.2.2 ∧ w.2.2 ≤ 8
  all : ∀ r, r < os.length → ∃ w ∈ ws, w.1 = r
@[simp] theorem ix0 (a : PyData) (r : List PyData) : ixD (.tuple (a :: r)) (.int 0) = some a := L2.atI_nat (j := 0) rfl
@[simp] theorem ix1 (a b : PyData) (r : List PyData) : ixD (.tuple (a :: b :: r)) (.int 1) = some b := L2.atI_nat (j := 1) rfl
@[simp] theorem ix2 (a b c : PyData) (r : List PyData) : ixD (.tuple (a :: b :: c :: r)) (.int 2) = some c := L2.atI_nat (j := 2) rfl
@[simp] theorem ix0l (a : PyData) (r : List PyData) : ixD (.list (a :: r)) (.int 0) = some a := L2.atI_nat (j := 0) rfl
theorem ix_map {α : Type} (enc : α → PyData) (xs : List α) (k : Nat) (x : α) (h : xs[k]? = some x) : ixD (.tuple (xs.map enc)) (.int (k : Int)) = some (enc x) := L2.atI_nat (by rw [List.getElem?_map, h]; rfl)
theorem ix_mapl {α : Type} (enc : α → PyData) (xs : List α) (k : Nat) (x : α) (h : xs[k]? = some x) : ixD (.list (xs.map enc)) (.int (k : Int)) = some (enc x) := L2.atI_nat (by rw [List.getElem?_map, h]; rfl)
theorem shp_list {ds : List PyData} (h : ∀ d ∈ ds, d.canLay0 = true ∧ d.depth ≤ 10) : SeqAt.shaped (.list ds) = true := by
  have h1 : PyData.canLayAll0 ds = true ∧ PyData.depthAll ds ≤ 10 := by
    induction ds with
    | nil => exact ⟨by simp [PyData.canLayAll0], by simp [PyData.depthAll]⟩
    | cons d r ih =>
      obtain ⟨a, b⟩ := ih fun z hz => h z (List.mem_cons_of_mem _ hz)
      obtain ⟨a', b'⟩ := h d List.mem_cons_self
      exact ⟨by simp [PyData.canLayAll0, a, a'], by simp [PyData.depthAll]; omega⟩
  simp [SeqAt.shaped, PyData.canLay0, PyData.depth, h1.1]
  omega
/-! ### what is asked -/
def askO (x : Option Int) (a : Int) : Option Int := x.map fun n => if n - a > 0 then n - a else 0
theorem asked_ok (x : Option Int) (a : Int) (g : G) : m_asked [encV x, .int a] g = .ok (encV (askO x a)) g := by
  cases x <;> simp [m_asked, b_asked, encV, askO]
def leastO (l : List (Option Int)) : Option Int := minI (l.filterMap id)
def greatO (l : List (Option Int)) : Option Int := if none ∈ l then none else maxI (l.filterMap id)
theorem ints_some : ∀ l : List (Option Int), intsD ((l.filter Option.isSome).map encV) = some (l.filterMap id)
  | [] => rfl
  | none :: r => by simpa using ints_some r
  | some v :: r => by simp [intsD, encV, ints_some r]
theorem least_ok (l : List (Option Int)) (hl : l.length ≤ 1000000) (g : G) : m_least_of [.list (l.map encV)] g = .ok (encV (leastO l)) g := by
  have h1 := compD_pure (t := nameT 2) (cond := boolD (unD notNoneD (varD 2))) (elt := varD 2) encV Option.isSome encV l [.sh (.list (l.map encV)), .no, .no] g fun x _ => ⟨_, rfl, by cases x <;> simp [encV], fun _ => by simp⟩
  have h2 := ints_some l
  generalize (l.filter Option.isSome).map encV = D at h1 h2
  unfold leastO
  cases D with
  | nil =>
    have : l.filterMap id = [] := by simpa [intsD] using h2.symm
    simp [m_least_of, b_least_of, hl, big, h1, this, minI, encV]
  | cons d r =>
    have hne : l.filterMap id ≠ [] := fun z => by
      rw [z] at h2
      have := intsD_eq h2
      simp at this
    obtain ⟨m, hm⟩ := minI_some hne
    simp [m_least_of, b_least_of, hl, big, h1, minD, h2, hm, encV]
theorem any_none (l : List (Option Int)) : ((l.map encV).any fun z => PyData.eqv z .none) = decide (none ∈ l) := by
  induction l with
  | nil => rfl
  | cons x r ih =>
    rw [List.map_cons, List.any_cons, ih]
    cases x <;> simp [encV, PyData.eqv]
theorem ints_all : ∀ l : List (Option Int), none ∉ l → intsD (l.map encV) = some (l.filterMap id)
  | [], _ => rfl
  | none :: r, h => absurd List.mem_cons_self h
  | some v :: r, h => by
    have := ints_all r fun z => h (List.mem_cons_of_mem _ z)
    simp [intsD, encV, this]
theorem great_ok (l : List (Option Int)) (hl : l ≠ []) (g : G) : m_greatest_of [.list (l.map encV)] g = .ok (encV (greatO l)) g := by
  have h1 : SeqAt.shaped (.list (l.map encV)) = true := shp_list fun d hd => by
    obtain ⟨x, _, rfl⟩ := List.mem_map.mp hd
    cases x with
    | none => exact ⟨rfl, by simp [encV, PyData.depth]⟩
    | some v => exact ⟨rfl, by simp [encV, PyData.depth]⟩
  have h0 : SeqAt.shaped PyData.none = true := rfl
  have e : inD .none (.list (l.map encV)) = some (.bool (decide (none ∈ l))) := by
    show (if SeqAt.shaped PyData.none = true ∧ SeqAt.shaped (.list (l.map encV)) = true then some (PyData.bool ((l.map encV).any fun z => PyData.eqv z .none)) else none) = _
    rw [if_pos ⟨h0, h1⟩, any_none]
  by_cases hn : none ∈ l
  · simp [m_greatest_of, b_greatest_of, e, hn, greatO, encV]
  · have h2 := ints_all l hn
    have hne : l.filterMap id ≠ [] := fun z => by
      cases l with
      | nil => exact hl rfl
      | cons x r => cases x with
        | none => exact hn List.mem_cons_self
        | some v => simp at z
    obtain ⟨m, hm⟩ := maxI_some hne
    simp [m_greatest_of, b_greatest_of, e, hn, greatO, maxD, h2, hm, encV]
/-! ### choices, what is wanted -/
section
variable {os : List Int} {ws : List W3}
def chs (ws : List W3) (r : Nat) : List Nat := (List.range ws.length).filter fun k => decide (((ws[k]?.getD (0, 0, 0)).1 : Int) = (r : Int))
theorem waysFrom_ok (V : Va os ws) (r : Nat) (g : G) : m_ways_from [encA os ws, .int (r : Int)] g = .ok (.list ((chs ws r).map natD)) g := by
  have l2 := V.l2
  have h1 := compD_pure (t := nameT 2) (cond := boolD (opD eqD (opD ixD (opD ixD (opD ixD (varD 0) (constD (.int 1))) (varD 2)) (constD (.int 0))) (varD 1))) (elt := varD 2) (fun k : Nat => PyData.int (0 + (k : Int))) (fun k => decide (((ws[k]?.getD (0, 0, 0)).1 : Int) = (r : Int))) natD (List.range ws.length) [.sh (encA os ws), .sh (.int (r : Int)), .no] g fun k hk => ⟨_, rfl, by
    have hk2 := List.mem_range.mp hk
    have e1 := ix_map encW3 ws k ws[k] (List.getElem?_eq_getElem hk2)
    simp [encA, e1, encW3, eqD, List.getElem?_eq_getElem hk2], fun _ => by simp⟩
  rw [← upFrom_map] at h1
  have hb : ((ws.length : Nat) : Int) ≤ 1000000 ∧ -1000000 ≤ ((ws.length : Nat) : Int) := by omega
  have hb2 : ws.length ≤ 1000000 := by omega
  simp only [encA] at h1
  simp [m_ways_from, b_ways_from, encA, hb, hb2, big, h1, chs]
theorem choices_ok (V : Va os ws) (g : G) : m_all_choices [encA os ws] g = .ok (.list ((List.range os.length).map fun r => .list ((chs ws r).map natD))) g := by
  have n2 := V.n2
  have h1 := compD_pure (t := nameT 1) (cond := yesT) (elt := callD 2 m_ways_from (consD (varD 0) (consD (varD 1) nilD))) (fun k : Nat => PyData.int (0 + (k : Int))) (fun _ => true) (fun r => .list ((chs ws r).map natD)) (List.range os.length) [.sh (encA os ws), .no] g fun k hk => ⟨_, rfl, rfl, fun _ => by
    simp [waysFrom_ok V k g]⟩
  rw [List.filter_eq_self.mpr fun _ _ => rfl, ← upFrom_map] at h1
  have hb : ((os.length : Nat) : Int) ≤ 1000000 ∧ -1000000 ≤ ((os.length : Nat) : Int) := by omega
  have hb2 : os.length ≤ 1000000 := by omega
  simp only [encA] at h1
  simp [m_all_choices, b_all_choices, encA, hb, hb2, big, h1]
theorem chs_mem {r k : Nat} : k ∈ chs ws r ↔ ∃ w, ws[k]? = some w ∧ w.1 = r := by
  unfold chs
  rw [List.mem_filter, List.mem_range]
  constructor
  · rintro ⟨h1, h2⟩
    rw [List.getElem?_eq_getElem h1] at h2
    simp at h2
    exact ⟨ws[k], List.getElem?_eq_getElem h1, by omega⟩
  · rintro ⟨w, h1, h2⟩
    refine ⟨(List.getElem?_eq_some_iff.mp h1).1, ?_⟩
    rw [h1]
    simp [h2]
theorem chs_ne (V : Va os ws) {r : Nat} (hr : r < os.length) : chs ws r ≠ [] := fun z => by
  obtain ⟨w, h1, h2⟩ := V.all r hr
  obtain ⟨k, hk, rfl⟩ := List.getElem_of_mem h1
  have : k ∈ chs ws r := chs_mem.mpr ⟨ws[k], List.getElem?_eq_getElem hk, h2⟩
  rw [z] at this
  cases this
theorem chs_len (V : Va os ws) (r : Nat) : (chs ws r).length ≤ 24 := by
  have h1 := List.length_filter_le (fun k : Nat => decide (((ws[k]?.getD (0, 0, 0)).1 : Int) = (r : Int))) (List.range ws.length)
  rw [List.length_range] at h1
  have := V.l2
  unfold chs
  omega
/-- what the ways from r ask -/
def told (ws : List W3) (cf : Nat → List Nat) (ps : List (Option Int)) (r : Nat) : List (Option Int) := (cf r).map fun k => askO (ps[(ws[k]?.getD (0, 0, 0)).2.1]?.getD none) (ws[k]?.getD (0, 0, 0)).2.2
def wantP (os : List Int) (ws : List W3) (cf : Nat → List Nat) (ps : List (Option Int)) (r : Nat) : Option Int := if os[r]?.getD 0 = 0 then leastO (told ws cf ps r) else greatO (told ws cf ps r)
/-- choices of ways: from each room some of its ways; es the ways that are left -/
structure Cz (os : List Int) (ws : List W3) (cf : Nat → List Nat) (es : List W3) : Prop where
  n2 : os.length ≤ 8
  ne : ∀ r, r < os.length → cf r ≠ []
  len : ∀ r, (cf r).length ≤ 24
  mem : ∀ r, r < os.length → ∀ k ∈ cf r, ∃ w, ws[k]? = some w ∧ w.1 = r
  iff : ∀ r, r < os.length → ∀ w, (w ∈ es ∧ w.1 = r) ↔ ∃ k ∈ cf r, ws[k]? = some w
  w : ∀ w ∈ ws, w.1 < os.length ∧ w.2.1 < os.length ∧ -8 ≤ w.2.2 ∧ w.2.2 ≤ 8
  sub : ∀ w ∈ es, w ∈ ws
theorem Va.cz (V : Va os ws) : Cz os ws (chs ws) ws := ⟨V.n2, fun r hr => chs_ne V hr, chs_len V, fun r _ k hk => chs_mem.mp hk, fun r hr w => by
  constructor
  · rintro ⟨h1, h2⟩
    obtain ⟨k, hk, rfl⟩ := List.getElem_of_mem h1
    exact ⟨k, chs_mem.mpr ⟨ws[k], List.getElem?_eq_getElem hk, h2⟩, List.getElem?_eq_getElem hk⟩
  · rintro ⟨k, h1, h2⟩
    obtain ⟨w', w1, w2⟩ := chs_mem.mp h1
    rw [h2] at w1
    cases w1
    exact ⟨List.mem_of_getElem? h2, w2⟩, V.w, fun _ h => h⟩
end
section
variable {os : List Int} {ws es : List W3} {cf : Nat → List Nat}
theorem wanted_ok (C : Cz os ws cf es) {ps : List (Option Int)} (hl : ps.length = os.length) {r : Nat} (hr : r < os.length) (g : G) :
    m_wanted [.tuple (os.map PyData.int), .tuple (ws.map encW3), .list ((List.range os.length).map fun r => .list ((cf r).map natD)), .list (ps.map encV), .int (r : Int)] g = .ok (encV (wantP os ws cf ps r)) g := by
  have e0 : ixD (.list ((List.range os.length).map fun r => PyData.list ((cf r).map natD))) (.int (r : Int)) = some (.list ((cf r).map natD)) := ix_mapl _ _ r r (by rw [List.getElem?_range hr])
  have e3 := ix_map PyData.int os r os[r] (List.getElem?_eq_getElem hr)
  have h1 := compD_pure (t := nameT 6) (cond := yesT) (elt := callD 2 m_asked (consD (opD ixD (varD 3) (opD ixD (opD ixD (varD 1) (varD 6)) (constD (.int 1)))) (consD (opD ixD (opD ixD (varD 1) (varD 6)) (constD (.int 2))) nilD))) natD (fun _ => true) (fun k => encV (askO (ps[(ws[k]?.getD (0, 0, 0)).2.1]?.getD none) (ws[k]?.getD (0, 0, 0)).2.2)) (cf r)
    [.sh (.tuple (os.map PyData.int)), .sh (.tuple (ws.map encW3)), .sh (.list ((List.range os.length).map fun r => .list ((cf r).map natD))), .sh (.list (ps.map encV)), .sh (.int (r : Int)), .no, .no] g fun k hk => ⟨_, rfl, rfl, fun _ => by
      obtain ⟨w, w1, w2⟩ := C.mem r hr k hk
      have e1 := ix_map encW3 ws k w w1
      have ht : w.2.1 < ps.length := by rw [hl]; exact (C.w w (List.mem_of_getElem? w1)).2.1
      have e2 := ix_mapl encV ps w.2.1 ps[w.2.1] (List.getElem?_eq_getElem ht)
      simp [e1, encW3, e2, asked_ok, w1, List.getElem?_eq_getElem ht]⟩
  rw [List.filter_eq_self.mpr fun _ _ => rfl] at h1
  have e4 : (cf r).map (fun k => encV (askO (ps[(ws[k]?.getD (0, 0, 0)).2.1]?.getD none) (ws[k]?.getD (0, 0, 0)).2.2)) = (told ws cf ps r).map encV := by
    unfold told
    rw [List.map_map]
    rfl
  rw [e4] at h1
  have hb2 : (cf r).length ≤ 1000000 := by have := C.len r; omega
  have hb3 : (told ws cf ps r).length ≤ 1000000 := by unfold told; rw [List.length_map]; exact hb2
  have hne : told ws cf ps r ≠ [] := by unfold told; simp; exact C.ne r hr
  by_cases h0 : os[r] = 0
  · simp [m_wanted, b_wanted, e0, hb2, big, h1, e3, eqD, h0, least_ok _ hb3, wantP, List.getElem?_eq_getElem hr]
  · simp [m_wanted, b_wanted, e0, hb2, big, h1, e3, eqD, h0, great_ok _ hne, wantP, List.getElem?_eq_getElem hr]
end
/-! ### loops that end -/
theorem whileS_eq {c : Te} {b : Sm} {n : Nat} {ρ : Nv} {g : G} {r : SR} (h : whileN c b n ρ g = r) (hr : r ≠ .bad) : whileS c b ρ g = r := by
  have hn : whileN c b n ρ g ≠ .bad := by rw [h]; exact hr
  have he : ∃ n, whileN c b n ρ g ≠ .bad := ⟨n, hn⟩
  unfold whileS
  rw [dif_pos he]
  have h1 := Classical.choose_spec he
  have a := whileN_mono h1 n
  have b' := whileN_mono hn (Classical.choose he)
  rw [Nat.add_comm] at a
  rw [a] at b'
  rw [← h, ← b']
theorem whileS_run {c : Te} {b : Sm} (P : Nat → Nv → G → Prop) (Qf : Nv → G → Prop) (step : ∀ k ρ g, P k ρ g → (c ρ g = .ok false g ∧ Qf ρ g) ∨ (∃ g1 ρ2 g2 k2, c ρ g = .ok true g1 ∧ b ρ g1 = .nx ρ2 g2 ∧ P k2 ρ2 g2 ∧ k2 < k)) :
    ∀ k ρ g, P k ρ g → ∃ ρ' g', whileS c b ρ g = .nx ρ' g' ∧ Qf ρ' g' := by
  have key : ∀ k ρ g, P k ρ g → ∃ n ρ' g', whileN c b n ρ g = .nx ρ' g' ∧ Qf ρ' g' := by
    intro k
    induction k using Nat.strongRecOn with
    | ind k ih =>
      intro ρ g h
      rcases step k ρ g h with ⟨h1, h2⟩ | ⟨g1, ρ2, g2, k2, h1, h2, h3, h4⟩
      · refine ⟨1, ρ, g, ?_, h2⟩
        unfold whileN
        rw [h1]
      · obtain ⟨n, ρ', g', h5, h6⟩ := ih k2 h4 ρ2 g2 h3
        refine ⟨n + 1, ρ', g', ?_, h6⟩
        unfold whileN
        rw [h1]
        simp only [h2, h5]
  intro k ρ g h
  obtain ⟨n, ρ', g', h1, h2⟩ := key k ρ g h
  exact ⟨ρ', g', whileS_eq h1 (fun z => nomatch z), h2⟩
/-! ### prices by rising -/
abbrev oF (os : List Int) : Nat → Int := fun r => os[r]?.getD 0
abbrev pF (ps : List (Option Int)) : Nat → Option Int := fun r => ps[r]?.getD none
def cutO (cap : Int) : Option Int → Option Int
  | none => none
  | some v => if v > cap then none else some v
def moreO (x y : Option Int) : Bool := match y with
  | none => false
  | some b => match x with
    | none => true
    | some a => decide (b < a)
theorem more_ok (x y : Option Int) (g : G) : m_is_more [encV x, encV y] g = .ok (.bool (moreO x y)) g := by
  cases y <;> cases x <;> simp [m_is_more, b_is_more, encV, moreO]
theorem more_iff {x y : Option Int} : moreO x y = false ↔ leO x y := by
  cases y with
  | none => simp [moreO, leO]
  | some b => cases x with
    | none => simp [moreO, leO]
    | some a => simp [moreO, leO]
section
variable {os : List Int} {ws es : List W3} {cf : Nat → List Nat} {ps : List (Option Int)} {r : Nat} {m : Int}
theorem told_mem0 {x : Option Int} : x ∈ told ws cf ps r ↔ ∃ k ∈ cf r, x = askO (pF ps (ws[k]?.getD (0, 0, 0)).2.1) (ws[k]?.getD (0, 0, 0)).2.2 := by
  unfold told
  rw [List.mem_map]
  constructor
  · rintro ⟨k, hk, rfl⟩
    exact ⟨k, hk, rfl⟩
  · rintro ⟨k, hk, rfl⟩
    exact ⟨k, hk, rfl⟩
theorem told_mem (C : Cz os ws cf es) (hr : r < os.length) {x : Option Int} : x ∈ told ws cf ps r ↔ ∃ w ∈ es, w.1 = r ∧ x = askO (pF ps w.2.1) w.2.2 := by
  rw [told_mem0]
  constructor
  · rintro ⟨k, hk, rfl⟩
    obtain ⟨w, w1, w2⟩ := C.mem r hr k hk
    have := (C.iff r hr w).mpr ⟨k, hk, w1⟩
    exact ⟨w, this.1, w2, by rw [w1]; rfl⟩
  · rintro ⟨w, w1, w2, rfl⟩
    obtain ⟨k, hk, hk2⟩ := (C.iff r hr w).mp ⟨w1, w2⟩
    exact ⟨k, hk, by rw [hk2]; rfl⟩
theorem mem_fid {l : List (Option Int)} {v : Int} : v ∈ l.filterMap id ↔ some v ∈ l := by
  rw [List.mem_filterMap]
  constructor
  · rintro ⟨x, h1, h2⟩
    have h2 : x = some v := h2
    rw [← h2]; exact h1
  · exact fun h => ⟨some v, h, rfl⟩
theorem leastO_le {l : List (Option Int)} : leO (leastO l) (some m) ↔ ∃ x ∈ l, leO x (some m) := by
  unfold leastO
  constructor
  · intro h
    obtain ⟨v, hv, hm⟩ := leO_some h
    exact ⟨some v, mem_fid.mp (minI_spec hv).1, hm⟩
  · rintro ⟨x, hx, hm⟩
    obtain ⟨v, rfl, hv⟩ := leO_some hm
    have h1 := mem_fid.mpr hx
    obtain ⟨k, hk⟩ := minI_some (ns := l.filterMap id) (fun z => by rw [z] at h1; cases h1)
    rw [hk]
    exact Int.le_trans ((minI_spec hk).2 v h1) hv
theorem greatO_le {l : List (Option Int)} (hl : l ≠ []) : leO (greatO l) (some m) ↔ ∀ x ∈ l, leO x (some m) := by
  unfold greatO
  by_cases hn : none ∈ l
  · rw [if_pos hn]
    exact ⟨fun h => h.elim, fun h => h none hn⟩
  · rw [if_neg hn]
    have hne : l.filterMap id ≠ [] := fun z => by
      cases l with
      | nil => exact hl rfl
      | cons x r => cases x with
        | none => exact hn List.mem_cons_self
        | some v => simp at z
    obtain ⟨k, hk⟩ := maxI_some hne
    rw [hk]
    obtain ⟨k1, k2⟩ := maxI_spec hk
    constructor
    · intro h x hx
      cases x with
      | none => exact absurd hx hn
      | some v => exact Int.le_trans (k2 v (mem_fid.mpr hx)) h
    · intro h
      exact h (some k) (mem_fid.mp k1)
theorem askO_le {x : Option Int} {a : Int} (h0 : 0 ≤ m) : leO (askO x a) (some m) ↔ leO x (some (m + a)) := by
  cases x with
  | none => exact Iff.rfl
  | some v =>
    show (if v - a > 0 then v - a else 0) ≤ m ↔ v ≤ m + a
    split <;> constructor <;> intro h <;> omega
theorem want_le (C : Cz os ws cf es) (hr : r < os.length) (h0 : 0 ≤ m) : leO (wantP os ws cf ps r) (some m) ↔ Okp (oF os) es (pF ps) r m := by
  have hne : told ws cf ps r ≠ [] := by unfold told; simp; exact C.ne r hr
  unfold wantP Okp
  by_cases ho : os[r]?.getD 0 = 0
  · rw [if_pos ho, if_pos ho, leastO_le]
    constructor
    · rintro ⟨x, hx, h⟩
      obtain ⟨w, w1, w2, rfl⟩ := (told_mem C hr).mp hx
      exact ⟨w, w1, w2, (askO_le h0).mp h⟩
    · rintro ⟨w, w1, w2, h⟩
      exact ⟨_, (told_mem C hr).mpr ⟨w, w1, w2, rfl⟩, (askO_le h0).mpr h⟩
  · rw [if_neg ho, if_neg ho, greatO_le hne]
    constructor
    · intro h w w1 w2
      exact (askO_le h0).mp (h _ ((told_mem C hr).mpr ⟨w, w1, w2, rfl⟩))
    · intro h x hx
      obtain ⟨w, w1, w2, rfl⟩ := (told_mem C hr).mp hx
      exact (askO_le h0).mpr (h w w1 w2)
theorem want_nonneg {v : Int} (h : wantP os ws cf ps r = some v) : 0 ≤ v := by
  have key : some v ∈ told ws cf ps r → 0 ≤ v := fun hx => by
    obtain ⟨k, _, e⟩ := told_mem0.mp hx
    generalize ws[k]?.getD (0, 0, 0) = w at e
    cases hp : pF ps w.2.1 with
    | none => rw [hp] at e; cases e
    | some u =>
      rw [hp] at e
      have e : v = if u - w.2.2 > 0 then u - w.2.2 else 0 := Option.some.inj e
      rw [e]
      split <;> omega
  unfold wantP at h
  split at h
  · exact key (mem_fid.mp (minI_spec h).1)
  · unfold greatO at h
    split at h
    · cases h
    · exact key (mem_fid.mp (maxI_spec h).1)
/-- what holds of the prices at each step -/
structure Jp (os : List Int) (es : List W3) (cap : Int) (ps : List (Option Int)) : Prop where
  len : ps.length = os.length
  val : ∀ x ∈ ps, ∀ v, x = some v → 0 ≤ v ∧ v ≤ cap
  low : ∀ q, Pre (oF os) es os.length cap q → ∀ r, r < os.length → leO (pF ps r) (q r)
def wgt (cap : Int) : List (Option Int) → Nat
  | [] => 0
  | none :: r => wgt cap r
  | some v :: r => (cap + 1 - v).toNat + wgt cap r
theorem wgt_set {cap : Int} : ∀ {ps : List (Option Int)} {r : Nat} {x : Option Int}, (∀ y ∈ ps, ∀ v, y = some v → 0 ≤ v ∧ v ≤ cap) → r < ps.length → moreO x (pF ps r) = true → wgt cap (ps.set r x) < wgt cap ps
  | [], r, x, _, h, _ => absurd h (by simp)
  | y :: ps, 0, x, hv, _, hm => by
    cases y with
    | none => cases hm
    | some b =>
      have hb := hv (some b) List.mem_cons_self b rfl
      cases x with
      | none => show wgt cap ps < (cap + 1 - b).toNat + wgt cap ps; omega
      | some a =>
        have ha : b < a := by
          have h2 : moreO (some a) (some b) = true := hm
          simpa [moreO] using h2
        show (cap + 1 - a).toNat + wgt cap ps < (cap + 1 - b).toNat + wgt cap ps
        omega
  | y :: ps, r + 1, x, hv, h, hm => by
    have ih := wgt_set (cap := cap) (ps := ps) (r := r) (x := x) (fun z hz => hv z (List.mem_cons_of_mem _ hz)) (by simpa using h) hm
    cases y with
    | none => exact ih
    | some b => show (cap + 1 - b).toNat + wgt cap (ps.set r x) < (cap + 1 - b).toNat + wgt cap ps; omega
theorem cut_low (C : Cz os ws cf es) {cap : Int} (J : Jp os es cap ps) (hr : r < os.length) (q : Nat → Option Int) (hq : Pre (oF os) es os.length cap q) : leO (cutO cap (wantP os ws cf ps r)) (q r) := by
  cases e : q r with
  | none => trivial
  | some m =>
    obtain ⟨h1, h2, h3⟩ := hq.at_ r hr m e
    have h4 : leO (wantP os ws cf ps r) (some m) := (want_le C hr h1).mpr (h3.mono (fun w hw => (C.w w (C.sub w hw)).2.1) (J.low q hq))
    obtain ⟨v, hv, hvm⟩ := leO_some h4
    rw [hv]
    show leO (if v > cap then none else some v) (some m)
    rw [if_neg (by omega)]
    exact hvm
theorem Jp.set (C : Cz os ws cf es) {cap : Int} (J : Jp os es cap ps) (hr : r < os.length) : Jp os es cap (ps.set r (cutO cap (wantP os ws cf ps r))) := by
  refine ⟨by rw [List.length_set]; exact J.len, fun x hx v hv => ?_, fun q hq k hk => ?_⟩
  · rcases List.mem_or_eq_of_mem_set hx with h | h
    · exact J.val x h v hv
    · rw [h] at hv
      cases e : wantP os ws cf ps r with
      | none => rw [e] at hv; cases hv
      | some u =>
        rw [e] at hv
        have hv : (if u > cap then none else some u) = some v := hv
        split at hv
        · cases hv
        · cases hv
          exact ⟨want_nonneg e, by omega⟩
  · by_cases hk2 : k = r
    · subst hk2
      show leO ((ps.set k _)[k]?.getD none) _
      rw [List.getElem?_set_self (by rw [J.len]; exact hr)]
      exact cut_low C J hr q hq
    · show leO ((ps.set r _)[k]?.getD none) _
      rw [List.getElem?_set_ne (Ne.symm hk2)]
      exact J.low q hq k hk
/-- where nothing rises any more, they are the least -/
theorem Jp.done (C : Cz os ws cf es) {cap : Int} (J : Jp os es cap ps) (h : ∀ r, r < os.length → moreO (cutO cap (wantP os ws cf ps r)) (pF ps r) = false) : IsL (oF os) es os.length cap (pF ps) := by
  refine ⟨⟨fun r hr m hm => ?_⟩, J.low⟩
  have hmem : some m ∈ ps := by
    have hr2 : r < ps.length := by rw [J.len]; exact hr
    have hm2 : ps[r]?.getD none = some m := hm
    rw [List.getElem?_eq_getElem hr2] at hm2
    have hm2 : ps[r] = some m := hm2
    rw [← hm2]
    exact List.getElem_mem hr2
  obtain ⟨h1, h2⟩ := J.val _ hmem m rfl
  refine ⟨h1, h2, (want_le C hr h1).mp ?_⟩
  have h3 := more_iff.mp (h r hr)
  rw [hm] at h3
  obtain ⟨v, hv, hvm⟩ := leO_some h3
  cases e : wantP os ws cf ps r with
  | none => rw [e] at hv; cases hv
  | some u =>
    rw [e] at hv
    have hv : (if u > cap then none else some u) = some v := hv
    split at hv
    · cases hv
    · cases hv
      exact hvm
theorem Jp.start (hc : 0 ≤ cap) : Jp os es cap (List.replicate os.length (some 0)) := by
  refine ⟨by simp, fun x hx v hv => ?_, fun q hq r hr => ?_⟩
  · rw [(List.mem_replicate.mp hx).2] at hv
    cases hv
    exact ⟨Int.le_refl _, hc⟩
  · show leO ((List.replicate os.length (some (0 : Int)))[r]?.getD none) _
    rw [List.getElem?_replicate, if_pos hr]
    cases e : q r with
    | none => trivial
    | some m => exact (hq.at_ r hr m e).1
end
theorem set_map {ps : List (Option Int)} {r : Nat} {x : Option Int} : (ps.map encV).set r (encV x) = (ps.set r x).map encV := List.map_set.symm
theorem at_map {ps : List (Option Int)} {r : Nat} (hr : r < ps.length) : L2.atI (ps.map encV) (r : Int) = some (encV (pF ps r)) := L2.atI_nat (by
  rw [List.getElem?_map, List.getElem?_eq_getElem hr]
  show some (encV ps[r]) = some (encV (ps[r]?.getD none))
  rw [List.getElem?_eq_getElem hr]; rfl)
theorem ixN_nat {n r : Nat} (h : r < n) : L2.ixN n (r : Int) = some r := by
  have := L2.atI_nat (xs := List.range n) (j := r) (v := r) (List.getElem?_range h)
  unfold L2.atI at this
  rw [List.length_range] at this
  cases e : L2.ixN n (r : Int) with
  | none => rw [e] at this; cases this
  | some j =>
    rw [e] at this
    have := (List.getElem?_eq_some_iff.mp this).2
    rw [List.getElem_range] at this
    rw [this]
theorem seq_eq {a b : Sm} {ρ ρ1 : Nv} {g g1 : G} (h : a ρ g = .nx ρ1 g1) : seqS a b ρ g = b ρ1 g1 := by unfold seqS; rw [h]
section
variable {os : List Int} {ws : List W3} {ps : List (Option Int)} {r : Nat} {m : Int}
theorem range_pre {m k : Nat} {pre post : List Nat} (e : List.range m = pre ++ k :: post) : pre.length = k ∧ k < m ∧ pre = List.range k := by
  have h1 : (List.range m)[pre.length]? = some k := by rw [e]; simp
  obtain ⟨h2, h3⟩ := List.getElem?_eq_some_iff.mp h1
  rw [List.getElem_range] at h3
  rw [List.length_range] at h2
  refine ⟨h3, by omega, ?_⟩
  have h4 : (List.range m).take pre.length = pre := by rw [e]; simp
  rw [List.take_range, Nat.min_eq_left (by omega), h3] at h4
  exact h4.symm
end
section
variable {os : List Int} {ws es : List W3} {cf : Nat → List Nat} {ps : List (Option Int)} {r : Nat} {m : Int}
/-- a room's greatest loss -/
def mlF (ws : List W3) (cf : Nat → List Nat) (r : Nat) : Int := (maxI (0 :: (cf r).map fun k => -(ws[k]?.getD (0, 0, 0)).2.2)).getD 0
theorem mlF_max (ws : List W3) (cf : Nat → List Nat) (r : Nat) : maxI (0 :: (cf r).map fun k => -(ws[k]?.getD (0, 0, 0)).2.2) = some (mlF ws cf r) := by
  obtain ⟨m, hm⟩ := maxI_some (ns := 0 :: (cf r).map fun k => -(ws[k]?.getD (0, 0, 0)).2.2) (fun z => nomatch z)
  unfold mlF
  rw [hm]; rfl
theorem mlF_nonneg (ws : List W3) (cf : Nat → List Nat) (r : Nat) : 0 ≤ mlF ws cf r := (maxI_spec (mlF_max ws cf r)).2 0 List.mem_cons_self
theorem mlF_loss (C : Cz os ws cf es) : ∀ w ∈ es, -w.2.2 ≤ mlF ws cf w.1 := fun w hw => by
  obtain ⟨k, hk, hk2⟩ := (C.iff w.1 (C.w w (C.sub w hw)).1 w).mp ⟨hw, rfl⟩
  refine (maxI_spec (mlF_max ws cf _)).2 _ (List.mem_cons_of_mem _ (List.mem_map.mpr ⟨k, hk, ?_⟩))
  rw [hk2]; rfl
theorem mlF_le (C : Cz os ws cf es) (hr : r < os.length) : mlF ws cf r ≤ 8 := by
  rcases List.mem_cons.mp (maxI_spec (mlF_max ws cf r)).1 with h | h
  · omega
  · obtain ⟨k, hk, e⟩ := List.mem_map.mp h
    obtain ⟨w, w1, w2⟩ := C.mem r hr k hk
    rw [w1] at e
    have := (C.w w (List.mem_of_getElem? w1)).2.2.1
    have e : -w.2.2 = mlF ws cf r := e
    omega
theorem sum_sumTo (f : Nat → Int) : ∀ n, ((List.range n).map f).sum = sumTo f n
  | 0 => rfl
  | n + 1 => by rw [List.range_succ, List.map_append, List.sum_append, sum_sumTo f n]; simp [sumTo]
theorem ints_ints : ∀ ns : List Int, intsD (ns.map PyData.int) = some ns
  | [] => rfl
  | n :: r => by simp [intsD, ints_ints r]
theorem most_ok (C : Cz os ws cf es) (g : G) : setS 3 (unD sumD (shareO (lcO (rangeD (unD lenD (varD 0))) [6] (nameT 6) yesT (unD maxD (opD addD (shareO (lstO (consD (constD (.int 0)) nilD))) (shareO (lcO (itemsD (opD ixD (varD 2) (varD 6))) [8] (nameT 8) yesT (unD negD (opD ixD (opD ixD (varD 1) (varD 8)) (constD (.int 2)))))))))))
    [.sh (.tuple (os.map PyData.int)), .sh (.tuple (ws.map encW3)), .sh (.list ((List.range os.length).map fun r => .list ((cf r).map natD))), .no, .no, .no, .no, .no, .no] g = .nx [.sh (.tuple (os.map PyData.int)), .sh (.tuple (ws.map encW3)), .sh (.list ((List.range os.length).map fun r => .list ((cf r).map natD))), .sh (.int (sumTo (mlF ws cf) os.length)), .no, .no, .no, .no, .no] g := by
  have n2 := C.n2
  have hb : ((os.length : Nat) : Int) ≤ 1000000 ∧ -1000000 ≤ ((os.length : Nat) : Int) := by omega
  have hb2 : os.length ≤ 1000000 := by omega
  have h1 := compD_pure (t := nameT 6) (cond := yesT) (elt := unD maxD (opD addD (shareO (lstO (consD (constD (.int 0)) nilD))) (shareO (lcO (itemsD (opD ixD (varD 2) (varD 6))) [8] (nameT 8) yesT (unD negD (opD ixD (opD ixD (varD 1) (varD 8)) (constD (.int 2)))))))) (fun k : Nat => PyData.int (0 + (k : Int))) (fun _ => true) (fun r => PyData.int (mlF ws cf r)) (List.range os.length)
    [.sh (.tuple (os.map PyData.int)), .sh (.tuple (ws.map encW3)), .sh (.list ((List.range os.length).map fun r => .list ((cf r).map natD))), .no, .no, .no, .no, .no, .no] g fun r hr => ⟨_, rfl, rfl, fun _ => by
      have hr := List.mem_range.mp hr
      have e0 : ixD (.list ((List.range os.length).map fun r => PyData.list ((cf r).map natD))) (.int (r : Int)) = some (.list ((cf r).map natD)) := ix_mapl _ _ r r (by rw [List.getElem?_range hr])
      have h2 := compD_pure (t := nameT 8) (cond := yesT) (elt := unD negD (opD ixD (opD ixD (varD 1) (varD 8)) (constD (.int 2)))) natD (fun _ => true) (fun k => PyData.int (-(ws[k]?.getD (0, 0, 0)).2.2)) (cf r)
        [.sh (.tuple (os.map PyData.int)), .sh (.tuple (ws.map encW3)), .sh (.list ((List.range os.length).map fun r => .list ((cf r).map natD))), .no, .no, .no, .sh (.int (r : Int)), .no, .no] g fun k hk => ⟨_, rfl, rfl, fun _ => by
          obtain ⟨w, w1, w2⟩ := C.mem r hr k hk
          have e1 := ix_map encW3 ws k w w1
          simp [e1, encW3, w1]⟩
      rw [List.filter_eq_self.mpr fun _ _ => rfl] at h2
      have hb3 : (cf r).length ≤ 1000000 := by have := C.len r; omega
      have hb4 : 1 + (cf r).length ≤ 1000000 := by have := C.len r; omega
      have hm := mlF_max ws cf r
      have hi : intsD (PyData.int 0 :: (cf r).map fun k => PyData.int (-(ws[k]?.getD (0, 0, 0)).2.2)) = some (0 :: (cf r).map fun k => -(ws[k]?.getD (0, 0, 0)).2.2) := by
        have := ints_ints (0 :: (cf r).map fun k => -(ws[k]?.getD (0, 0, 0)).2.2)
        rw [List.map_cons, List.map_map] at this
        exact this
      simp [e0, hb3, hb4, big, h2, maxD, hi, hm]⟩
  rw [List.filter_eq_self.mpr fun _ _ => rfl, ← upFrom_map] at h1
  have hs : sumD (.list ((List.range os.length).map fun r => PyData.int (mlF ws cf r))) = some (.int (sumTo (mlF ws cf) os.length)) := by
    have := ints_ints ((List.range os.length).map (mlF ws cf))
    rw [List.map_map] at this
    rw [← sum_sumTo]
    show (intsD _).map _ = _
    exact (congrArg (Option.map fun ns : List Int => PyData.int ns.sum) this)
  simp [hb, hb2, big, h1, hs]
/-- one room of a pass -/
theorem roomS_ok (C : Cz os ws cf es) {cap : Int} {g : G} (J : Jp os es cap ps) (hr : r < os.length) (ch : Bool) (x6 : Sl) :
    ∃ x6', (seqS (setS 7 (peekD 4 (callD 5 m_wanted (consD (varD 0) (consD (varD 1) (consD (varD 2) (consD (varD 4) (consD (varD 6) nilD))))))))
    (seqS (ifS (andT (boolD (unD notNoneD (varD 7))) (boolD (opD (cmpD fun i j => decide (j < i)) (varD 7) (varD 3))))
    (setS 7 (constD .none))
    nextS)
    (ifS (truthD (callD 2 m_is_more (consD (varD 7) (consD (ixO 4 (varD 6)) nilD))))
    (seqS (setIxS 4 (varD 6) (varD 7))
    (setS 5 (constD (.bool true))))
    nextS)))
      [.sh (.tuple (os.map PyData.int)), .sh (.tuple (ws.map encW3)), .sh (.list ((List.range os.length).map fun r => .list ((cf r).map natD))), .sh (.int cap), .ow (.lst (ps.map encV)), .sh (.bool ch), .sh (.int (r : Int)), x6, .no] g
      = (if moreO (cutO cap (wantP os ws cf ps r)) (pF ps r) = true then .nx [.sh (.tuple (os.map PyData.int)), .sh (.tuple (ws.map encW3)), .sh (.list ((List.range os.length).map fun r => .list ((cf r).map natD))), .sh (.int cap), .ow (.lst ((ps.set r (cutO cap (wantP os ws cf ps r))).map encV)), .sh (.bool true), .sh (.int (r : Int)), x6', .no] g
        else .nx [.sh (.tuple (os.map PyData.int)), .sh (.tuple (ws.map encW3)), .sh (.list ((List.range os.length).map fun r => .list ((cf r).map natD))), .sh (.int cap), .ow (.lst (ps.map encV)), .sh (.bool ch), .sh (.int (r : Int)), x6', .no] g) := by
  refine ⟨.sh (encV (cutO cap (wantP os ws cf ps r))), ?_⟩
  have hw := wanted_ok C J.len hr g
  have hsc : scal (encV (wantP os ws cf ps r)) = true := by cases wantP os ws cf ps r <;> rfl
  have h1 : seqS (setS 7 (peekD 4 (callD 5 m_wanted (consD (varD 0) (consD (varD 1) (consD (varD 2) (consD (varD 4) (consD (varD 6) nilD))))))))
      (ifS (andT (boolD (unD notNoneD (varD 7))) (boolD (opD (cmpD fun i j => decide (j < i)) (varD 7) (varD 3))))
      (setS 7 (constD .none))
      nextS) [.sh (.tuple (os.map PyData.int)), .sh (.tuple (ws.map encW3)), .sh (.list ((List.range os.length).map fun r => .list ((cf r).map natD))), .sh (.int cap), .ow (.lst (ps.map encV)), .sh (.bool ch), .sh (.int (r : Int)), x6, .no] g = .nx [.sh (.tuple (os.map PyData.int)), .sh (.tuple (ws.map encW3)), .sh (.list ((List.range os.length).map fun r => .list ((cf r).map natD))), .sh (.int cap), .ow (.lst (ps.map encV)), .sh (.bool ch), .sh (.int (r : Int)), .sh (encV (cutO cap (wantP os ws cf ps r))), .no] g := by
    cases e : wantP os ws cf ps r with
    | none =>
      rw [e] at hw hsc
      simp [peekD, hw, hsc, cutO, encV]
    | some v =>
      rw [e] at hw hsc
      by_cases hv : v > cap
      · have hv' : cap < v := hv
        simp [peekD, hw, hsc, cutO, encV, hv']
      · have hv' : ¬ cap < v := hv
        simp [peekD, hw, hsc, cutO, encV, hv']
  have hr2 : r < ps.length := by rw [J.len]; exact hr
  have hm := more_ok (cutO cap (wantP os ws cf ps r)) (pF ps r) g
  have ha := at_map (ps := ps) hr2
  have hi : L2.ixN (ps.map encV).length (r : Int) = some r := ixN_nat (by rw [List.length_map]; exact hr2)
  have hset := set_map (ps := ps) (r := r) (x := cutO cap (wantP os ws cf ps r))
  generalize cutO cap (wantP os ws cf ps r) = c at *
  have h2 : ∀ s t u : Sm, seqS s (seqS t u) = seqS (seqS s t) u := fun s t u => by
    funext ρ g
    unfold seqS
    cases s ρ g <;> rfl
  rw [h2]
  unfold seqS at h1 ⊢
  rw [h1]
  cases hc : moreO c (pF ps r) with
  | true =>
    rw [hc] at hm
    rw [List.length_map] at hi
    simp [ixO, ha, hm, setIxS, hi]
  | false =>
    rw [hc] at hm
    simp [ixO, ha, hm]
 
theorem starts_ok (C : Cz os ws cf es) (g : G) : let cap := sumTo (mlF ws cf) os.length; ∃ ps : List (Option Int), ps.length = os.length ∧ (∀ x ∈ ps, ∀ v, x = some v → 0 ≤ v ∧ v ≤ cap) ∧ IsL (oF os) es os.length cap (pF ps) ∧ m_starts_with [.tuple (os.map PyData.int), .tuple (ws.map encW3), .list ((List.range os.length).map fun r => .list ((cf r).map natD))] g = .ok (.list (ps.map encV)) g := by
  intro cap
  have hc : 0 ≤ cap := sumTo_nonneg _ fun r _ => mlF_nonneg ws cf r
  have n2 := C.n2
  have hb : ((os.length : Nat) : Int) ≤ 1000000 ∧ -1000000 ≤ ((os.length : Nat) : Int) := by omega
  -- one pass
  have pass : ∀ (ps : List (Option Int)) (x5 x6 : Sl), Jp os es cap ps → ∃ ps' ch x5' x6', forS (rangeD (unD lenD (varD 0))) (nameT 6)
      (seqS (setS 7 (peekD 4 (callD 5 m_wanted (consD (varD 0) (consD (varD 1) (consD (varD 2) (consD (varD 4) (consD (varD 6) nilD))))))))
      (seqS (ifS (andT (boolD (unD notNoneD (varD 7))) (boolD (opD (cmpD fun i j => decide (j < i)) (varD 7) (varD 3))))
      (setS 7 (constD .none))
      nextS)
      (ifS (truthD (callD 2 m_is_more (consD (varD 7) (consD (ixO 4 (varD 6)) nilD))))
      (seqS (setIxS 4 (varD 6) (varD 7))
      (setS 5 (constD (.bool true))))
      nextS))) [.sh (.tuple (os.map PyData.int)), .sh (.tuple (ws.map encW3)), .sh (.list ((List.range os.length).map fun r => .list ((cf r).map natD))), .sh (.int cap), .ow (.lst (ps.map encV)), .sh (.bool false), x5, x6, .no] g
      = .nx [.sh (.tuple (os.map PyData.int)), .sh (.tuple (ws.map encW3)), .sh (.list ((List.range os.length).map fun r => .list ((cf r).map natD))), .sh (.int cap), .ow (.lst (ps'.map encV)), .sh (.bool ch), x5', x6', .no] g ∧ Jp os es cap ps' ∧
      (ch = false → ∀ r, r < os.length → moreO (cutO cap (wantP os ws cf ps' r)) (pF ps' r) = false) ∧ (ch = true → wgt cap ps' < wgt cap ps) := by
    intro ps x5 x6 J
    obtain ⟨ρ', g', h1, hg', ps', ch, x5', x6', rfl, J', c1, c2⟩ := forD_all (t := nameT 6) (body := (seqS (setS 7 (peekD 4 (callD 5 m_wanted (consD (varD 0) (consD (varD 1) (consD (varD 2) (consD (varD 4) (consD (varD 6) nilD))))))))
      (seqS (ifS (andT (boolD (unD notNoneD (varD 7))) (boolD (opD (cmpD fun i j => decide (j < i)) (varD 7) (varD 3))))
      (setS 7 (constD .none))
      nextS)
      (ifS (truthD (callD 2 m_is_more (consD (varD 7) (consD (ixO 4 (varD 6)) nilD))))
      (seqS (setIxS 4 (varD 6) (varD 7))
      (setS 5 (constD (.bool true))))
      nextS)))) (fun k : Nat => PyData.int (0 + (k : Int)))
      (fun pre ρ g' => g' = g ∧ ∃ ps' ch x5 x6, ρ = [.sh (.tuple (os.map PyData.int)), .sh (.tuple (ws.map encW3)), .sh (.list ((List.range os.length).map fun r => .list ((cf r).map natD))), .sh (.int cap), .ow (.lst (ps'.map encV)), .sh (.bool ch), x5, x6, .no] ∧ Jp os es cap ps' ∧
        (ch = false → ps' = ps ∧ ∀ r ∈ pre, moreO (cutO cap (wantP os ws cf ps r)) (pF ps r) = false) ∧ (ch = true → wgt cap ps' < wgt cap ps)) (List.range os.length) (by
          rintro pre k post e ρ g' ⟨rfl, ps', ch, x5, x6, rfl, J', c1, c2⟩
          obtain ⟨_, hk, _⟩ := range_pre e
          obtain ⟨x6', h⟩ := roomS_ok C (g := g') J' hk ch x6
          rw [show ((k : Nat) : Int) = 0 + (k : Int) by omega] at h
          cases hm : moreO (cutO cap (wantP os ws cf ps' k)) (pF ps' k) with
          | true =>
            rw [hm, if_pos rfl] at h
            refine ⟨_, _, g', rfl, .inl h, rfl, _, true, _, _, rfl, J'.set C hk, (fun z => nomatch z), fun _ => ?_⟩
            have w1 := wgt_set (cap := cap) J'.val (by rw [J'.len]; exact hk) hm
            cases ch with
            | true => exact Nat.lt_trans w1 (c2 rfl)
            | false => rw [(c1 rfl).1] at w1 ⊢; exact w1
          | false =>
            rw [hm, if_neg (by decide)] at h
            refine ⟨_, _, g', rfl, .inl h, rfl, ps', ch, _, _, rfl, J', fun z => ⟨(c1 z).1, fun r hr => ?_⟩, c2⟩
            rcases List.mem_append.mp hr with q | q
            · exact (c1 z).2 r q
            · rw [List.mem_singleton.mp q, ← (c1 z).1]; exact hm) (g := g) (ρ := [.sh (.tuple (os.map PyData.int)), .sh (.tuple (ws.map encW3)), .sh (.list ((List.range os.length).map fun r => .list ((cf r).map natD))), .sh (.int cap), .ow (.lst (ps.map encV)), .sh (.bool false), x5, x6, .no]) ⟨rfl, ps, false, _, _, rfl, J, (fun _ => ⟨rfl, fun _ h => nomatch h⟩), fun z => nomatch z⟩
    rw [hg', ← upFrom_map] at h1
    refine ⟨ps', ch, x5', x6', for_run (g1 := g) ?_ h1, J', fun z r hr => ?_, c2⟩
    · simp [hb, big]
    · rw [(c1 z).1]; exact (c1 z).2 r (List.mem_range.mpr hr)
  obtain ⟨ρ', g', h1, hg', ps, ch, x5, x6, rfl, J, hst⟩ := whileS_run (c := truthD (varD 5)) (b := (seqS (setS 5 (constD (.bool false)))
      (forS (rangeD (unD lenD (varD 0))) (nameT 6)
      (seqS (setS 7 (peekD 4 (callD 5 m_wanted (consD (varD 0) (consD (varD 1) (consD (varD 2) (consD (varD 4) (consD (varD 6) nilD))))))))
      (seqS (ifS (andT (boolD (unD notNoneD (varD 7))) (boolD (opD (cmpD fun i j => decide (j < i)) (varD 7) (varD 3))))
      (setS 7 (constD .none))
      nextS)
      (ifS (truthD (callD 2 m_is_more (consD (varD 7) (consD (ixO 4 (varD 6)) nilD))))
      (seqS (setIxS 4 (varD 6) (varD 7))
      (setS 5 (constD (.bool true))))
      nextS))))))
    (fun k ρ g' => g' = g ∧ ∃ ps ch x5 x6, ρ = [.sh (.tuple (os.map PyData.int)), .sh (.tuple (ws.map encW3)), .sh (.list ((List.range os.length).map fun r => .list ((cf r).map natD))), .sh (.int cap), .ow (.lst (ps.map encV)), .sh (.bool ch), x5, x6, .no] ∧ Jp os es cap ps ∧ ((ch = true ∧ k = wgt cap ps + 1) ∨ (ch = false ∧ k = 0 ∧ ∀ r, r < os.length → moreO (cutO cap (wantP os ws cf ps r)) (pF ps r) = false)))
    (fun ρ g' => g' = g ∧ ∃ ps ch x5 x6, ρ = [.sh (.tuple (os.map PyData.int)), .sh (.tuple (ws.map encW3)), .sh (.list ((List.range os.length).map fun r => .list ((cf r).map natD))), .sh (.int cap), .ow (.lst (ps.map encV)), .sh (.bool ch), x5, x6, .no] ∧ Jp os es cap ps ∧ ∀ r, r < os.length → moreO (cutO cap (wantP os ws cf ps r)) (pF ps r) = false) (by
      rintro k ρ g' ⟨rfl, ps, ch, x5, x6, rfl, J, hk⟩
      rcases hk with ⟨rfl, rfl⟩ | ⟨rfl, rfl, hs⟩
      · obtain ⟨ps', ch', x5', x6', h1, J', c1, c2⟩ := pass ps x5 x6 J
        refine .inr ⟨g', _, g', if ch' = true then wgt cap ps' + 1 else 0, by simp, ?_, ⟨rfl, ps', ch', x5', x6', rfl, J', ?_⟩, ?_⟩
        · unfold seqS
          show forS _ _ _ _ _ = _
          exact h1
        · cases ch' with
          | true => exact .inl ⟨rfl, rfl⟩
          | false => exact .inr ⟨rfl, rfl, c1 rfl⟩
        · cases ch' with
          | true => have := c2 rfl; show wgt cap ps' + 1 < wgt cap ps + 1; omega
          | false => show 0 < wgt cap ps + 1; omega
      · exact .inl ⟨by simp, rfl, ps, false, x5, x6, rfl, J, hs⟩) (wgt cap (List.replicate os.length (some 0)) + 1) [.sh (.tuple (os.map PyData.int)), .sh (.tuple (ws.map encW3)), .sh (.list ((List.range os.length).map fun r => .list ((cf r).map natD))), .sh (.int cap), .ow (.lst ((List.replicate os.length (some 0)).map encV)), .sh (.bool true), .no, .no, .no] g ⟨rfl, _, true, _, _, rfl, .start hc, .inl ⟨rfl, rfl⟩⟩
  rw [hg'] at h1
  refine ⟨ps, J.len, J.val, J.done C hst, ?_⟩
  have hrep : (List.replicate os.length [PyData.int 0]).flatten = (List.replicate os.length (some 0)).map encV := by
    rw [List.map_replicate]
    generalize os.length = n
    induction n with
    | zero => rfl
    | succ n ih => rw [List.replicate_succ, List.flatten_cons, ih]; rfl
  have hb2 : os.length ≤ 1000000 := by omega
  have hz : setOS 4 (mulO (shareO (lstO (consD (constD (.int 0)) nilD))) (unD lenD (varD 0))) [.sh (.tuple (os.map PyData.int)), .sh (.tuple (ws.map encW3)), .sh (.list ((List.range os.length).map fun r => .list ((cf r).map natD))), .sh (.int cap), .no, .no, .no, .no, .no] g = .nx [.sh (.tuple (os.map PyData.int)), .sh (.tuple (ws.map encW3)), .sh (.list ((List.range os.length).map fun r => .list ((cf r).map natD))), .sh (.int cap), .ow (.lst ((List.replicate os.length (some 0)).map encV)), .no, .no, .no, .no] g := by
    simp [mulO, hb, hb2, big, hrep, -List.map_replicate]
  have hbody : b_starts_with [.sh (.tuple (os.map PyData.int)), .sh (.tuple (ws.map encW3)), .sh (.list ((List.range os.length).map fun r => .list ((cf r).map natD))), .no, .no, .no, .no, .no, .no] g = .rt (.list (ps.map encV)) g := by
    unfold b_starts_with
    rw [seq_eq (most_ok C g), seq_eq hz, seq_eq (a := setS 5 (constD (.bool true))) (ρ1 := [.sh (.tuple (os.map PyData.int)), .sh (.tuple (ws.map encW3)), .sh (.list ((List.range os.length).map fun r => .list ((cf r).map natD))), .sh (.int cap), .ow (.lst ((List.replicate os.length (some 0)).map encV)), .sh (.bool true), .no, .no, .no]) (g1 := g) rfl, seq_eq h1]
    simp
  unfold m_starts_with fnD
  show (match b_starts_with [.sh (.tuple (os.map PyData.int)), .sh (.tuple (ws.map encW3)), .sh (.list ((List.range os.length).map fun r => .list ((cf r).map natD))), .no, .no, .no, .no, .no, .no] g with | .nx _ g1 => R.ok PyData.none g1 | .rt d g1 => .ok d g1 | .ex k _ g1 => .ex k g1 | _ => .bad) = _
  rw [hbody]
end
end K

set_option Elab.async false
set_option linter.all false
set_option maxRecDepth 100000
set_option maxHeartbeats 400000
namespace K
open PySem DL PyProof.Rows
section
variable {os : List Int} {ws : List W3}
theorem comp_none {α : Type} {i : Nat} {cond : Te} (enc : α → PyData) (xs : List α) (ρ : Nv) (g : G) (h : ∀ x ∈ xs, cond (ρ.set i (.sh (enc x))) g = .ok false g) : compD (nameT i) cond (varD i) (xs.map enc) ρ g = .ok [] g := by
  have := compD_pure (t := nameT i) (cond := cond) (elt := varD i) enc (fun _ => false) enc xs ρ g fun x hx => ⟨_, rfl, h x hx, fun z => nomatch z⟩
  rw [this]
  rw [show xs.filter (fun _ => false) = [] from List.filter_eq_nil_iff.mpr fun _ _ => by simp]
  rfl
theorem within_ok {v a b : Int} (h : a ≤ v ∧ v ≤ b) (g : G) : m_is_within [.int v, .int a, .int b] g = .ok (.bool true) g := by
  simp [m_is_within, b_is_within, isT, h]
theorem tuple_ok (ds : List PyData) (k : Int) (h : (ds.length : Int) = k) (g : G) : m_is_tuple [.tuple ds, .int k] g = .ok (.bool true) g := by
  simp [m_is_tuple, b_is_tuple, isT, eqD, h]
theorem owners_ok (V : Va os ws) (g : G) : m_are_owners [.tuple (os.map PyData.int), .int 8] g = .ok (.bool true) g := by
  have n1 := V.n1
  have n2 := V.n2
  have h1 := comp_none (i := 2) (cond := notT (truthD (callD 3 m_is_within (consD (varD 2) (consD (constD (.int 0)) (consD (constD (.int 1)) nilD)))))) PyData.int os [.sh (.tuple (os.map PyData.int)), .sh (.int 8), .no] g fun x hx => by
    have hz : 0 ≤ x ∧ x ≤ 1 := by rcases V.o x hx with rfl | rfl <;> decide
    simp [within_ok hz]
  have b1 : (1 : Int) ≤ (os.length : Int) := by omega
  have b2 : (os.length : Int) ≤ 8 := by omega
  have b3 : os.length ≤ 1000000 := by omega
  have hn : os ≠ [] := fun z => by rw [z] at n1; simp at n1
  simp [m_are_owners, b_are_owners, isT, b1, b2, b3, big, h1, eqD, hn]
  first | rfl | (split <;> first | rfl | omega)
theorem way_ok (V : Va os ws) {w : W3} (hw : w ∈ ws) (g : G) : m_is_way [encW3 w, .int (os.length : Int)] g = .ok (.bool true) g := by
  obtain ⟨h1, h2, h3, h4⟩ := V.w w hw
  have t := tuple_ok [.int (w.1 : Int), .int (w.2.1 : Int), .int w.2.2] 3 rfl g
  have a := within_ok (v := w.2.2) (a := -8) (b := 8) ⟨by omega, by omega⟩ g
  have b := within_ok (v := (w.1 : Int)) (a := 0) (b := (os.length : Int) - 1) ⟨by omega, by omega⟩ g
  have c := within_ok (v := (w.2.1 : Int)) (a := 0) (b := (os.length : Int) - 1) ⟨by omega, by omega⟩ g
  simp [m_is_way, b_is_way, encW3, t, a, b, c]
end
section
variable {os : List Int} {ws : List W3}
theorem checkArena_ok (V : Va os ws) (g : G) : m_check_arena [encA os ws] g = .ok .none g := by
  have n1 := V.n1
  have n2 := V.n2
  have l1 := V.l1
  have l2 := V.l2
  have t := tuple_ok [.tuple (os.map PyData.int), .tuple (ws.map encW3)] 2 rfl g
  have h1 := comp_none (i := 1) (cond := notT (truthD (callD 2 m_is_way (consD (varD 1) (consD (unD lenD (opD ixD (varD 0) (constD (.int 0)))) nilD))))) encW3 ws [.sh (encA os ws), .no, .no] g fun w hw => by
    simp [encA, way_ok V hw]
  have h2 := comp_none (i := 2) (cond := notT (truthD (callD 2 m_ways_from (consD (varD 0) (consD (varD 2) nilD))))) (fun k : Nat => PyData.int (0 + (k : Int))) (List.range os.length) [.sh (encA os ws), .no, .no] g fun k hk => by
    have hne := chs_ne V (List.mem_range.mp hk)
    have hw := waysFrom_ok V k g
    cases hc : chs ws k with
    | nil => exact absurd hc hne
    | cons a r =>
      rw [hc] at hw
      simp [hw]
  rw [← upFrom_map] at h2
  have b1 : (1 : Int) ≤ (ws.length : Int) := by omega
  have b2 : (ws.length : Int) ≤ 24 := by omega
  have b3 : ws.length ≤ 1000000 := by omega
  have b4 : ((os.length : Nat) : Int) ≤ 1000000 ∧ -1000000 ≤ ((os.length : Nat) : Int) := by omega
  have b5 : os.length ≤ 1000000 := by omega
  have ow := owners_ok V g
  have hn : ws ≠ [] := fun z => by rw [z] at l1; simp at l1
  simp only [encA] at h1 h2
  simp [m_check_arena, b_check_arena, encA, t, ow, isT, b1, b2, b3, b4, b5, big, h1, h2]

end
section
variable {os : List Int} {ws : List W3}
/-! price lists compared -/
theorem shp_V (ps : List (Option Int)) : SeqAt.shaped (.list (ps.map encV)) = true := shp_list fun d hd => by
  obtain ⟨x, _, rfl⟩ := List.mem_map.mp hd
  cases x with
  | none => exact ⟨rfl, by simp [encV, PyData.depth]⟩
  | some v => exact ⟨rfl, by simp [encV, PyData.depth]⟩
theorem eqv_V : ∀ ps qs : List (Option Int), PyData.eqvAll (ps.map encV) (qs.map encV) = decide (ps = qs)
  | [], [] => by simp [PyData.eqvAll]
  | [], _ :: _ => by simp [PyData.eqvAll]
  | _ :: _, [] => by simp [PyData.eqvAll]
  | x :: ps, y :: qs => by
    have ih := eqv_V ps qs
    rw [List.map_cons, List.map_cons]
    simp only [PyData.eqvAll, ih]
    cases x with
    | none => cases y with
      | none => simp [encV, PyData.eqv]
      | some b => simp [encV, PyData.eqv]
    | some a => cases y with
      | none => simp [encV, PyData.eqv]
      | some b =>
        by_cases h : a = b
        · simp [encV, PyData.eqv, h]
        · simp [encV, PyData.eqv, h]
theorem eq_V (ps qs : List (Option Int)) : eqD (.list (ps.map encV)) (.list (qs.map encV)) = some (.bool (decide (ps = qs))) := by
  show (if SeqAt.shaped (.list (ps.map encV)) = true ∧ SeqAt.shaped (.list (qs.map encV)) = true then some (PyData.bool (PyData.eqv (.list (ps.map encV)) (.list (qs.map encV)))) else none) = _
  rw [if_pos ⟨shp_V ps, shp_V qs⟩]
  simp only [PyData.eqv, eqv_V]
theorem nar_V (ps : List (Option Int)) (h : ps.length ≤ 1000000) : Nar 7 (.list (ps.map encV)) := by
  refine ⟨by rw [List.length_map]; exact h, fun d hd => ?_⟩
  obtain ⟨x, _, rfl⟩ := List.mem_map.mp hd
  cases x <;> trivial
theorem eq_Vn (qs : List (Option Int)) : eqD .none (.list (qs.map encV)) = some (.bool false) := by
  show (if SeqAt.shaped PyData.none = true ∧ SeqAt.shaped (.list (qs.map encV)) = true then some (PyData.bool (PyData.eqv .none (.list (qs.map encV)))) else none) = _
  rw [if_pos ⟨rfl, shp_V qs⟩]
  rfl
end
theorem ne_V (ps qs : List (Option Int)) : neD (.list (ps.map encV)) (.list (qs.map encV)) = some (.bool (!decide (ps = qs))) := by
  unfold neD
  rw [eq_V]
theorem bads_run {i k cnt : Nat} {e : Ex} {ds : List PyData} {ρ : Nv} {g : DL.G} (hi : k < cnt) (h : ∀ d ∈ ds, ∀ z, e (((ρ.set i z).set i (.sh d))) g = .ex k g) : ∃ z, forD (nameT i) (tryS k cnt (seqS (dropS e) (retS (constD (.bool false)))) nextS) ds ρ g = .nx (ρ.set i z) g := by
  have := forD_all (t := nameT i) (body := tryS k cnt (seqS (dropS e) (retS (constD (.bool false)))) nextS) id (fun _ ρ' g' => g' = g ∧ ∃ z, ρ' = ρ.set i z) ds (by
    rintro pre d post ed ρ' g' ⟨rfl, z, rfl⟩
    have h1 := h d (by rw [ed]; simp) z
    rw [List.set_set] at h1
    refine ⟨_, ρ.set i (.sh d), g', rfl, .inl ?_, rfl, _, rfl⟩
    rw [List.set_set]
    simp [h1]) (ρ := ρ) (g := g) ⟨rfl, ρ[i]?.getD .no, by
      apply List.ext_getElem?
      intro j
      by_cases hj : i = j
      · subst hj
        rw [List.getElem?_set]
        split
        · split
          · rename_i h; rw [List.getElem?_eq_getElem h]; rfl
          · rename_i h; rw [List.getElem?_eq_none (by omega)]
        · rename_i h; exact absurd rfl h
      · rw [List.getElem?_set_ne hj]⟩
  obtain ⟨ρ', g', h1, rfl, z, rfl⟩ := this
  rw [List.map_id] at h1
  exact ⟨z, h1⟩
section
variable {os : List Int} {ws : List W3}
abbrev rowD (l : List (Option Int)) : PyData := .list (l.map encV)
theorem within_dec (v a b : Int) (g : DL.G) : m_is_within [.int v, .int a, .int b] g = .ok (.bool (decide (a ≤ v ∧ v ≤ b))) g := by
  by_cases h1 : a ≤ v
  · by_cases h2 : v ≤ b <;> simp [m_is_within, b_is_within, isT, h1, h2]
  · simp [m_is_within, b_is_within, isT, h1]
theorem all_filter {α : Type} (p : α → Bool) (l : List α) : decide ((l.filter fun x => !p x) = []) = l.all p := by
  by_cases h : (l.filter fun x => !p x) = []
  · rw [decide_eq_true h]
    symm
    rw [List.all_eq_true]
    intro x hx
    have := List.filter_eq_nil_iff.mp h x hx
    simpa using this
  · rw [decide_eq_false h]
    symm
    rw [← Bool.not_eq_true, List.all_eq_true]
    intro h2
    exact h (List.filter_eq_nil_iff.mpr fun x hx => by simp [h2 x hx])
theorem find_none {α : Type} (p : α → Bool) (l : List α) : (l.find? fun x => !p x) = none ↔ l.all p = true := by
  rw [List.find?_eq_none, List.all_eq_true]
  constructor
  · intro h x hx
    have := h x hx
    simpa using this
  · intro h x hx
    simp [h x hx]
theorem find_some {α : Type} (p : α → Bool) (l : List α) {x : α} (h : (l.find? fun x => !p x) = some x) : l.all p = false := by
  cases e : l.all p with
  | false => rfl
  | true =>
    rw [(find_none p l).mpr e] at h
    cases h
end
section
/-- a loop that ends with an answer at the first that fits -/
theorem forD_find {α : Type} {t : Tg} {body : Sm} (enc : α → PyData) (R : Nv → Prop) (c : α → Bool) (res : α → PyData) (g : DL.G) : ∀ (xs : List α), (∀ x ∈ xs, ∀ ρ, R ρ → ∃ ρ1 ρ2, t (enc x) ρ = some ρ1 ∧ R ρ2 ∧ body ρ1 g = if c x = true then .rt (res x) g else .nx ρ2 g) → ∀ ρ, R ρ →
    (∃ x, xs.find? c = some x ∧ forD t body (xs.map enc) ρ g = .rt (res x) g) ∨ (xs.find? c = none ∧ ∃ ρ', R ρ' ∧ forD t body (xs.map enc) ρ g = .nx ρ' g) := by
  intro xs
  induction xs with
  | nil => intro _ ρ r; exact .inr ⟨rfl, ρ, r, rfl⟩
  | cons x xs ih =>
    intro h ρ r
    obtain ⟨ρ1, ρ2, h1, h2, h3⟩ := h x (by simp) ρ r
    rw [List.map_cons]
    by_cases hc : c x = true
    · rw [if_pos hc] at h3
      refine .inl ⟨x, by rw [List.find?_cons_of_pos hc], ?_⟩
      unfold forD
      rw [h1]
      simp only [h3]
    · rw [if_neg hc] at h3
      rw [List.find?_cons_of_neg hc]
      have e : forD t body (enc x :: xs.map enc) ρ g = forD t body (xs.map enc) ρ2 g := by
        rw [forD, h1]
        simp only [h3]
      rw [e]
      exact ih (fun y hy => h y (by simp [hy])) ρ2 h2
end
end K

set_option Elab.async false
set_option linter.all false
set_option maxRecDepth 100000
set_option maxHeartbeats 400000
namespace K
open PySem DL PyProof.Rows
section
variable {os : List Int} {ws es : List W3} {q ps : List (Option Int)}
abbrev owD (os : List Int) : PyData := .tuple (os.map PyData.int)
abbrev wyD (ws : List W3) : PyData := .tuple (ws.map encW3)
/-! the law's own raising of prices -/
theorem filter_at {α β : Type} (xs : List α) (d : α) (p : α → Bool) (f : α → β) : (((List.range xs.length).filter fun k => p (xs[k]?.getD d)).map fun k => f (xs[k]?.getD d)) = (xs.filter p).map f := by
  have h : xs = (List.range xs.length).map fun k => xs[k]?.getD d := by
    apply List.ext_getElem?
    intro i
    rw [List.getElem?_map]
    by_cases hi : i < xs.length
    · rw [List.getElem?_range hi, List.getElem?_eq_getElem hi]
      simp [List.getElem?_eq_getElem hi]
    · rw [List.getElem?_eq_none (by omega), List.getElem?_eq_none (by rw [List.length_range]; omega)]; rfl
  conv => rhs; rw [h, List.filter_map, List.map_map]
  rfl
def askL (es : List W3) (ps : List (Option Int)) (r : Nat) : List (Option Int) := (es.filter fun w => decide (w.1 = r)).map fun w => askO (pF ps w.2.1) w.2.2
theorem told_ways (ps : List (Option Int)) (r : Nat) : told es (chs es) ps r = askL es ps r := by
  have := filter_at es (0, 0, 0) (fun w => decide (w.1 = r)) fun w => askO (pF ps w.2.1) w.2.2
  unfold askL
  rw [← this]
  unfold told chs
  congr 1
  apply List.filter_congr
  intro k _
  by_cases h : (es[k]?.getD (0, 0, 0)).1 = r
  · rw [h]; simp
  · have : ¬ (((es[k]?.getD (0, 0, 0)).1 : Int) = (r : Int)) := by omega
    simp [h, this]
abbrev S13 (os : List Int) (D : PyData) (cap : Int) (ps : List (Option Int)) (ch : Bool) (x5 x6 x7 x8 x9 x10 x11 x12 : Sl) : Nv := [.sh (owD os), .sh D, .sh (.int cap), .ow (.lst (ps.map encV)), .sh (.bool ch), x5, x6, x7, x8, x9, x10, x11, x12]
theorem asks_run {D : PyData} (hD : D = .tuple (es.map encW3) ∨ D = .list (es.map encW3)) (hw : ∀ w ∈ es, w.2.1 < ps.length) (hl : es.length ≤ 1000) {cap : Int} {ch : Bool} {r : Nat} (x7 x8 x9 x10 x11 x12 : Sl) (g : DL.G) : ∃ y8 y9 y10,
    forS (itemsD (varD 1)) (tupT (consT (nameT 8) (consT (nameT 9) (consT (nameT 10) nilT))))
  (ifS (boolD (opD eqD (varD 8) (varD 5)))
  (appS 6 (ifD (boolD (unD isNoneD (ixO 3 (varD 9)))) (constD .none) (opD max2D (constD (.int 0)) (opD subD (ixO 3 (varD 9)) (varD 10)))))
  nextS) (S13 os D cap ps ch (.sh (.int (r : Int))) (.ow (.lst [])) x7 x8 x9 x10 x11 x12) g = .nx (S13 os D cap ps ch (.sh (.int (r : Int))) (.ow (.lst ((askL es ps r).map encV))) x7 y8 y9 y10 x11 x12) g := by
  obtain ⟨ρ', g', h1, hg', y8, y9, y10, rfl⟩ := forD_all (t := tupT (consT (nameT 8) (consT (nameT 9) (consT (nameT 10) nilT)))) (body := ifS (boolD (opD eqD (varD 8) (varD 5)))
    (appS 6 (ifD (boolD (unD isNoneD (ixO 3 (varD 9)))) (constD .none) (opD max2D (constD (.int 0)) (opD subD (ixO 3 (varD 9)) (varD 10)))))
    nextS) encW3 (fun pre ρ g' => g' = g ∧ ∃ y8 y9 y10, ρ = S13 os D cap ps ch (.sh (.int (r : Int))) (.ow (.lst ((askL pre ps r).map encV))) x7 y8 y9 y10 x11 x12) es (by
      rintro pre w post e ρ g' ⟨e', y8, y9, y10, rfl⟩
      have hwm : w ∈ es := by rw [e]; simp
      have hpl : pre.length < 1000 := by
        have := congrArg List.length e
        rw [List.length_append, List.length_cons] at this
        omega
      have hhl : (askL pre ps r).length ≤ pre.length := by
        unfold askL
        rw [List.length_map]
        exact List.length_filter_le _ _
      have hb : (askL pre ps r).length < 1000000 := by omega
      refine ⟨S13 os D cap ps ch (.sh (.int (r : Int))) (.ow (.lst ((askL pre ps r).map encV))) x7 (.sh (.int (w.1 : Int))) (.sh (.int (w.2.1 : Int))) (.sh (.int w.2.2)) x11 x12, S13 os D cap ps ch (.sh (.int (r : Int))) (.ow (.lst ((askL (pre ++ [w]) ps r).map encV))) x7 (.sh (.int (w.1 : Int))) (.sh (.int (w.2.1 : Int))) (.sh (.int w.2.2)) x11 x12, g', by simp [encW3], .inl ?_, e', _, _, _, rfl⟩
      by_cases hwr : w.1 = r
      · have e1 : L2.atI (ps.map encV) (w.2.1 : Int) = some (encV (pF ps w.2.1)) := at_map (hw w hwm)
        have e3 : askL (pre ++ [w]) ps r = askL pre ps r ++ [askO (pF ps w.2.1) w.2.2] := by
          unfold askL
          rw [List.filter_append, List.map_append]
          simp [hwr]
        rw [e3, List.map_append]
        generalize askL pre ps r = F at hb ⊢
        generalize pF ps w.2.1 = x at e1 ⊢
        subst hwr
        cases x with
        | none => simp [ixO, eqD, e1, encV, hb, big, askO]
        | some v => simp [ixO, eqD, e1, encV, hb, big, askO]
      · have e3 : askL (pre ++ [w]) ps r = askL pre ps r := by
          unfold askL
          rw [List.filter_append, List.map_append]
          simp [hwr]
        rw [e3]
        have h2 : ¬ ((w.1 : Int) = (r : Int)) := by omega
        simp [eqD, h2]) (g := g) (ρ := S13 os D cap ps ch (.sh (.int (r : Int))) (.ow (.lst [])) x7 x8 x9 x10 x11 x12) ⟨rfl, _, _, _, rfl⟩
  rw [hg'] at h1
  exact ⟨y8, y9, y10, for_run (g1 := g) (by rcases hD with rfl | rfl <;> simp) h1⟩
end
section
variable {os : List Int} {es : List W3} {ps : List (Option Int)}
abbrev roomP : Sm := seqS (setOS 6 (lstO nilD))
  (seqS (forS (itemsD (varD 1)) (tupT (consT (nameT 8) (consT (nameT 9) (consT (nameT 10) nilT))))
  (ifS (boolD (opD eqD (varD 8) (varD 5)))
  (appS 6 (ifD (boolD (unD isNoneD (ixO 3 (varD 9)))) (constD .none) (opD max2D (constD (.int 0)) (opD subD (ixO 3 (varD 9)) (varD 10)))))
  nextS))
  (seqS (setOS 7 (peekO 6 (lcO (itemsD (varD 6)) [12] (nameT 12) (boolD (unD notNoneD (varD 12))) (varD 12)))) (shutS 7 (seqS (ifS (boolD (opD eqD (opD ixD (varD 0) (varD 5)) (constD (.int 0))))
  (setS 11 (ifD (boolD (opD (cmpD fun i j => decide (j < i)) (unD lenD (varD 7)) (constD (.int 0)))) (unD minD (varD 7)) (constD .none)))
  (setS 11 (peekD 6 (ifD (boolD (opD eqD (unD lenD (varD 7)) (unD lenD (varD 6)))) (unD maxD (varD 7)) (constD .none)))))
  (seqS (ifS (andT (boolD (unD notNoneD (varD 11))) (boolD (opD (cmpD fun i j => decide (j < i)) (varD 11) (varD 2))))
  (setS 11 (constD .none))
  nextS)
  (ifS (boolD (opD neD (varD 11) (ixO 3 (varD 5))))
  (seqS (setIxS 3 (varD 5) (varD 11))
  (setS 4 (constD (.bool true))))
  nextS))))))
theorem filt_len : ∀ T : List (Option Int), ((T.filter Option.isSome).length = T.length) ↔ none ∉ T
  | [] => by simp
  | none :: t => by
    have := List.length_filter_le Option.isSome t
    simp
    omega
  | some v :: t => by
    have := filt_len t
    simp [this]
theorem ne_x (x y : Option Int) : neD (encV x) (encV y) = some (.bool (!decide (x = y))) := by
  cases x <;> cases y <;> simp [neD, eqD, encV]
theorem roomP_ok {D : PyData} (hD : D = .tuple (es.map encW3) ∨ D = .list (es.map encW3)) (V : Va os es) (hpl : ps.length = os.length) {cap : Int} {ch : Bool} {r : Nat} (hr : r < os.length) (x6 x7 x8 x9 x10 x11 x12 : Sl) (g : DL.G) : ∃ y6 y7 y8 y9 y10 y11,
    roomP (S13 os D cap ps ch (.sh (.int (r : Int))) x6 x7 x8 x9 x10 x11 x12) g =
      if cutO cap (wantP os es (chs es) ps r) = pF ps r then .nx (S13 os D cap ps ch (.sh (.int (r : Int))) y6 y7 y8 y9 y10 y11 x12) g
      else .nx (S13 os D cap (ps.set r (cutO cap (wantP os es (chs es) ps r))) true (.sh (.int (r : Int))) y6 y7 y8 y9 y10 y11 x12) g := by
  have l2 := V.l2
  obtain ⟨y8, y9, y10, h1⟩ := asks_run (os := os) (ps := ps) hD (fun w hw => by rw [hpl]; exact (V.w w hw).2.1) (by omega) (cap := cap) (ch := ch) (r := r) x7 x8 x9 x10 x11 x12 g
  have hT : told es (chs es) ps r = askL es ps r := told_ways ps r
  have hTl : (askL es ps r).length ≤ 24 := by
    rw [← hT]
    unfold told
    rw [List.length_map]
    exact chs_len V r
  have hTne : askL es ps r ≠ [] := by
    rw [← hT]
    unfold told
    simp
    exact chs_ne V hr
  have hw : wantP os es (chs es) ps r = if os[r] = 0 then leastO (askL es ps r) else greatO (askL es ps r) := by
    unfold wantP
    rw [List.getElem?_eq_getElem hr, hT]; rfl
  have hr2 : r < ps.length := by rw [hpl]; exact hr
  have ha := at_map (ps := ps) hr2
  have hi : L2.ixN (ps.map encV).length (r : Int) = some r := ixN_nat (by rw [List.length_map]; exact hr2)
  have e3 := ix_map PyData.int os r os[r] (List.getElem?_eq_getElem hr)
  rw [hw]
  generalize askL es ps r = T at h1 hTl hTne ⊢
  have e7 := ints_all T
  have e8 := ints_some T
  have e9 := filt_len T
  have hb2 : T.length ≤ 1000000 := by omega
  have hfl := List.length_filter_le Option.isSome T
  have hb4 : (T.filter Option.isSome).length ≤ 1000000 := by omega
  have hsc : (T.map encV).all scal = true := by
    rw [List.all_eq_true]
    intro d hd
    obtain ⟨x, _, rfl⟩ := List.mem_map.mp hd
    cases x <;> rfl
  have hscF : ((T.filter Option.isSome).map encV).all scal = true := by
    rw [List.all_eq_true]
    intro d hd
    obtain ⟨x, _, rfl⟩ := List.mem_map.mp hd
    cases x <;> rfl
  let X : Sl := .ow (.lst (T.map encV))
  let F := T.filter Option.isSome
  refine ⟨.ow (.lst (T.map encV)), .sh (.list (F.map encV)), y8, y9, y10, .sh (encV (cutO cap (if os[r] = 0 then leastO T else greatO T))), ?_⟩
  unfold roomP
  refine (seq_eq (a := setOS 6 (lstO nilD)) (ρ1 := S13 os D cap ps ch (.sh (.int (r : Int))) (.ow (.lst [])) x7 x8 x9 x10 x11 x12) (g1 := g) rfl).trans ?_
  refine (seq_eq h1).trans ?_
  have c1 := compD_pure (t := nameT 12) (cond := boolD (unD notNoneD (varD 12))) (elt := varD 12) encV Option.isSome encV T (S13 os D cap ps ch (.sh (.int (r : Int))) (.sh (.list (T.map encV))) x7 y8 y9 y10 x11 .no) g fun x _ => ⟨S13 os D cap ps ch (.sh (.int (r : Int))) (.sh (.list (T.map encV))) x7 y8 y9 y10 x11 (.sh (encV x)), by simp, by cases x <;> simp [encV], fun _ => by simp⟩
  refine (seq_eq (ρ1 := S13 os D cap ps ch (.sh (.int (r : Int))) (.ow (.lst (T.map encV))) (.ow (.lst (F.map encV))) y8 y9 y10 x11 x12) (g1 := g) ?_).trans ?_
  · show _ = SR.nx (S13 os D cap ps ch (.sh (.int (r : Int))) (.ow (.lst (T.map encV))) (.ow (.lst ((T.filter Option.isSome).map encV))) y8 y9 y10 x11 x12) g
    generalize (T.filter Option.isSome).map encV = Q at c1 hscF ⊢
    simp [peekO, hb2, big, c1, hscF]
  show seqS _ _ (S13 os D cap ps ch (.sh (.int (r : Int))) (.ow (.lst (T.map encV))) (.sh (.list ((T.filter Option.isSome).map encV))) y8 y9 y10 x11 x12) g = _
  have hdue : (ifS (boolD (opD eqD (opD ixD (varD 0) (varD 5)) (constD (.int 0))))
      (setS 11 (ifD (boolD (opD (cmpD fun i j => decide (j < i)) (unD lenD (varD 7)) (constD (.int 0)))) (unD minD (varD 7)) (constD .none)))
      (setS 11 (peekD 6 (ifD (boolD (opD eqD (unD lenD (varD 7)) (unD lenD (varD 6)))) (unD maxD (varD 7)) (constD .none))))) (S13 os D cap ps ch (.sh (.int (r : Int))) (.ow (.lst (T.map encV))) (.sh (.list ((T.filter Option.isSome).map encV))) y8 y9 y10 x11 x12) g
      = .nx (S13 os D cap ps ch (.sh (.int (r : Int))) (.ow (.lst (T.map encV))) (.sh (.list ((T.filter Option.isSome).map encV))) y8 y9 y10 (.sh (encV (if os[r] = 0 then leastO T else greatO T))) x12) g := by
    by_cases h0 : os[r] = 0
    · rw [if_pos h0]
      by_cases hq : (T.filter Option.isSome) = []
      · have h5 : T.filterMap id = [] := by
          rw [hq] at e8
          simpa [intsD] using e8.symm
        simp [e3, h0, eqD, hq, leastO, h5, minI, encV]
      · have h5 : T.filterMap id ≠ [] := fun z => by
          rw [z] at e8
          have := intsD_eq e8
          simp at this
          exact hq (List.filter_eq_nil_iff.mpr fun x hx => by simpa using this x hx)
        obtain ⟨m, hm⟩ := minI_some h5
        have h7 : 0 < (T.filter Option.isSome).length := List.length_pos_iff.mpr hq
        have hl : leastO T = some m := hm
        rw [hl]
        generalize T.filter Option.isSome = Q at e8 h7 hb4 ⊢
        simp [e3, h0, eqD, h7, minD, e8, hm, encV]
    · rw [if_neg h0]
      by_cases hn : none ∈ T
      · have hne : ¬ ((T.filter Option.isSome).length = T.length) := fun z => (e9.mp z) hn
        have hgr : greatO T = none := by unfold greatO; rw [if_pos hn]
        have hne2 : ¬ (((T.filter Option.isSome).length : Int) = (T.length : Int)) := by omega
        rw [hgr]
        generalize T.filter Option.isSome = Q at hne hne2 ⊢
        simp [peekD, e3, h0, eqD, hne, hne2, encV]
      · have he := e9.mpr hn
        have h2' := e7 hn
        have h5 : T.filterMap id ≠ [] := fun z => by
          cases T with
          | nil => exact hTne rfl
          | cons x t => cases x with
            | none => exact hn List.mem_cons_self
            | some v => simp at z
        obtain ⟨m, hm⟩ := maxI_some h5
        have hgr : greatO T = some m := by unfold greatO; rw [if_neg hn]; exact hm
        rw [hgr]
        generalize T.filter Option.isSome = Q at he e8 ⊢
        simp [peekD, e3, h0, eqD, he, maxD, e8, hm, encV]
  refine (seq_eq hdue).trans ?_
  generalize (if os[r] = 0 then leastO T else greatO T) = W
  have hcut : ifS (andT (boolD (unD notNoneD (varD 11))) (boolD (opD (cmpD fun i j => decide (j < i)) (varD 11) (varD 2))))
      (setS 11 (constD .none))
      nextS (S13 os D cap ps ch (.sh (.int (r : Int))) (.ow (.lst (T.map encV))) (.sh (.list ((T.filter Option.isSome).map encV))) y8 y9 y10 (.sh (encV W)) x12) g = .nx (S13 os D cap ps ch (.sh (.int (r : Int))) (.ow (.lst (T.map encV))) (.sh (.list ((T.filter Option.isSome).map encV))) y8 y9 y10 (.sh (encV (cutO cap W))) x12) g := by
    cases W with
    | none => simp [cutO, encV]
    | some v =>
      by_cases hv : v > cap
      · have hv' : cap < v := hv
        simp [cutO, encV, hv']
      · have hv' : ¬ cap < v := hv
        simp [cutO, encV, hv']
  refine (seq_eq hcut).trans ?_
  generalize cutO cap W = c
  have hne := ne_x c (pF ps r)
  have hset := set_map (ps := ps) (r := r) (x := c)
  rw [List.length_map] at hi
  have t1 : boolD (opD neD (varD 11) (ixO 3 (varD 5))) (S13 os D cap ps ch (.sh (.int (r : Int))) (.ow (.lst (T.map encV))) (.sh (.list ((T.filter Option.isSome).map encV))) y8 y9 y10 (.sh (encV c)) x12) g = .ok (!decide (c = pF ps r)) g := by
    have hx : ixO 3 (varD 5) (S13 os D cap ps ch (.sh (.int (r : Int))) (.ow (.lst (T.map encV))) (.sh (.list ((T.filter Option.isSome).map encV))) y8 y9 y10 (.sh (encV c)) x12) g = .ok (encV (pF ps r)) g := by simp [ixO, ha]
    generalize ixO 3 (varD 5) = E at hx ⊢
    generalize encV c = dc at hne hx ⊢
    generalize encV (pF ps r) = dp at hne hx ⊢
    simp only [boolD, opD, varD]
    simp [hx, hne]
  by_cases hc : c = pF ps r
  · rw [decide_eq_true hc] at t1
    rw [if_pos hc]
    exact (if_no (g1 := g) t1).trans rfl
  · rw [decide_eq_false hc] at t1
    rw [if_neg hc]
    refine (if_yes (g1 := g) t1).trans ?_
    rw [show S13 os D cap (ps.set r c) true (.sh (.int (r : Int))) (.ow (.lst (T.map encV))) (.sh (.list (F.map encV))) y8 y9 y10 (.sh (encV c)) x12 = S13 os D cap (ps.set r c) true (.sh (.int (r : Int))) (.ow (.lst (T.map encV))) (.sh (.list ((T.filter Option.isSome).map encV))) y8 y9 y10 (.sh (encV c)) x12 from rfl]
    unfold S13
    rw [← hset]
    generalize (T.filter Option.isSome).map encV = Q
    generalize T.map encV = Q2
    generalize encV c = dc
    have hl2 : (ps.map encV).length = ps.length := List.length_map _
    generalize ps.map encV = Q3 at hl2 ⊢
    rw [← hl2] at hi
    simp [setIxS, hi]
end
section
variable {os : List Int} {es : List W3} {ps qs : List (Option Int)}
abbrev LeP (n : Nat) (a b : List (Option Int)) : Prop := ∀ r, r < n → leO (pF a r) (pF b r)
theorem want_mono (V : Va os es) (h : LeP os.length ps qs) {r : Nat} (hr : r < os.length) : leO (wantP os es (chs es) ps r) (wantP os es (chs es) qs r) := by
  cases e : wantP os es (chs es) qs r with
  | none => trivial
  | some v =>
    have v0 := want_nonneg e
    have h1 : leO (wantP os es (chs es) qs r) (some v) := by rw [e]; exact Int.le_refl v
    exact (want_le V.cz hr v0).mpr (((want_le V.cz hr v0).mp h1).mono (fun w hw => (V.w w hw).2.1) h)
theorem cut_mono {cap : Int} {x y : Option Int} (h : leO x y) : leO (cutO cap x) (cutO cap y) := by
  cases y with
  | none => trivial
  | some b =>
    obtain ⟨a, rfl, hab⟩ := leO_some h
    show leO (if a > cap then none else some a) (if b > cap then none else some b)
    by_cases hb : b > cap
    · rw [if_pos hb]; trivial
    · rw [if_neg hb, if_neg (by omega)]
      exact hab
def Up (os : List Int) (es : List W3) (cap : Int) (ps : List (Option Int)) : Prop := ∀ r, r < os.length → leO (pF ps r) (cutO cap (wantP os es (chs es) ps r))
theorem Up.start {cap : Int} : Up os es cap (List.replicate os.length (some 0)) := fun r hr => by
  have e : pF (List.replicate os.length (some 0)) r = some 0 := by
    show (List.replicate os.length (some (0 : Int)))[r]?.getD none = _
    rw [List.getElem?_replicate, if_pos hr]; rfl
  rw [e]
  cases h : wantP os es (chs es) (List.replicate os.length (some 0)) r with
  | none => trivial
  | some v =>
    have := want_nonneg h
    show leO (some 0) (if v > cap then none else some v)
    split
    · trivial
    · exact this
theorem Up.set (V : Va os es) {cap : Int} (hl : ps.length = os.length) (U : Up os es cap ps) {r : Nat} (hr : r < os.length) : Up os es cap (ps.set r (cutO cap (wantP os es (chs es) ps r))) := by
  have at1 : pF (ps.set r (cutO cap (wantP os es (chs es) ps r))) r = cutO cap (wantP os es (chs es) ps r) := by
    show ((ps.set r _)[r]?).getD none = _
    rw [List.getElem?_set_self (by rw [hl]; exact hr)]; rfl
  have at2 : ∀ k, k ≠ r → pF (ps.set r (cutO cap (wantP os es (chs es) ps r))) k = pF ps k := fun k hk => by
    show ((ps.set r _)[k]?).getD none = _
    rw [List.getElem?_set_ne (Ne.symm hk)]
  have up : LeP os.length ps (ps.set r (cutO cap (wantP os es (chs es) ps r))) := fun k hk => by
    by_cases e : k = r
    · subst e; rw [at1]; exact U k hk
    · rw [at2 k e]; exact leO_refl _
  intro k hk
  refine leO_trans ?_ (cut_mono (want_mono V up hk))
  by_cases e : k = r
  · subst e; rw [at1]; exact leO_refl _
  · rw [at2 k e]; exact U k hk
theorem Up.more {cap : Int} (U : Up os es cap ps) {r : Nat} (hr : r < os.length) (h : cutO cap (wantP os es (chs es) ps r) ≠ pF ps r) : moreO (cutO cap (wantP os es (chs es) ps r)) (pF ps r) = true := by
  cases e : moreO (cutO cap (wantP os es (chs es) ps r)) (pF ps r) with
  | true => rfl
  | false => exact absurd (leO_anti (more_iff.mp e) (U r hr)) h
theorem lawPrices_ok {D : PyData} (hD : D = .tuple (es.map encW3) ∨ D = .list (es.map encW3)) (V : Va os es) (g : DL.G) : ∃ ps : List (Option Int), ps.length = os.length ∧ (∀ x ∈ ps, ∀ v, x = some v → 0 ≤ v ∧ v ≤ 8 * (os.length : Int)) ∧ IsL (oF os) es os.length (8 * (os.length : Int)) (pF ps) ∧ m_law_prices [owD os, D] g = .ok (rowD ps) g := by
  have n2 := V.n2
  obtain ⟨cap, hcap⟩ : ∃ cap : Int, cap = 8 * (os.length : Int) := ⟨_, rfl⟩
  rw [← hcap]
  have hc : 0 ≤ cap := by omega
  have hb : ((os.length : Nat) : Int) ≤ 1000000 ∧ -1000000 ≤ ((os.length : Nat) : Int) := by omega
  have hb2 : os.length ≤ 1000000 := by omega
  have pass : ∀ (ps : List (Option Int)) (x5 x6 x7 x8 x9 x10 x11 x12 : Sl), Jp os es cap ps → Up os es cap ps → ∃ ps' ch y5 y6 y7 y8 y9 y10 y11, forS (rangeD (unD lenD (varD 0))) (nameT 5) roomP (S13 os D cap ps false x5 x6 x7 x8 x9 x10 x11 x12) g = .nx (S13 os D cap ps' ch y5 y6 y7 y8 y9 y10 y11 x12) g ∧ Jp os es cap ps' ∧ Up os es cap ps' ∧
      (ch = false → ∀ r, r < os.length → cutO cap (wantP os es (chs es) ps' r) = pF ps' r) ∧ (ch = true → wgt cap ps' < wgt cap ps) := by
    intro ps x5 x6 x7 x8 x9 x10 x11 x12 J U
    obtain ⟨ρ', g', h1, hg', ps', ch, y5, y6, y7, y8, y9, y10, y11, rfl, J', U', c1, c2⟩ := forD_all (t := nameT 5) (body := roomP) (fun k : Nat => PyData.int (0 + (k : Int)))
      (fun pre ρ g' => g' = g ∧ ∃ ps' ch x5 x6 x7 x8 x9 x10 x11, ρ = S13 os D cap ps' ch x5 x6 x7 x8 x9 x10 x11 x12 ∧ Jp os es cap ps' ∧ Up os es cap ps' ∧
        (ch = false → ps' = ps ∧ ∀ r ∈ pre, cutO cap (wantP os es (chs es) ps r) = pF ps r) ∧ (ch = true → wgt cap ps' < wgt cap ps)) (List.range os.length) (by
          rintro pre k post e ρ g' ⟨e', ps', ch, x5, x6, x7, x8, x9, x10, x11, rfl, J', U', c1, c2⟩
          obtain ⟨_, hk, _⟩ := range_pre e
          obtain ⟨y6, y7, y8, y9, y10, y11, h⟩ := roomP_ok hD V J'.len (cap := cap) (ch := ch) hk x6 x7 x8 x9 x10 x11 x12 g'
          rw [show ((k : Nat) : Int) = 0 + (k : Int) by omega] at h
          by_cases hm : cutO cap (wantP os es (chs es) ps' k) = pF ps' k
          · rw [if_pos hm] at h
            refine ⟨_, _, g', rfl, .inl h, e', ps', ch, _, _, _, _, _, _, _, rfl, J', U', fun z => ⟨(c1 z).1, fun r hr => ?_⟩, c2⟩
            rcases List.mem_append.mp hr with q | q
            · exact (c1 z).2 r q
            · rw [List.mem_singleton.mp q, ← (c1 z).1]; exact hm
          · rw [if_neg hm] at h
            refine ⟨_, _, g', rfl, .inl h, e', _, true, _, _, _, _, _, _, _, rfl, J'.set V.cz hk, U'.set V J'.len hk, (fun z => nomatch z), fun _ => ?_⟩
            have w1 := wgt_set (cap := cap) J'.val (by rw [J'.len]; exact hk) (U'.more hk hm)
            cases ch with
            | true => exact Nat.lt_trans w1 (c2 rfl)
            | false => rw [(c1 rfl).1] at w1 ⊢; exact w1) (g := g) (ρ := S13 os D cap ps false x5 x6 x7 x8 x9 x10 x11 x12) ⟨rfl, ps, false, _, _, _, _, _, _, _, rfl, J, U, (fun _ => ⟨rfl, fun _ h => nomatch h⟩), fun z => nomatch z⟩
    rw [hg', ← upFrom_map] at h1
    refine ⟨ps', ch, y5, y6, y7, y8, y9, y10, y11, for_run (g1 := g) ?_ h1, J', U', fun z r hr => ?_, c2⟩
    · simp [hb, big]
    · rw [(c1 z).1]; exact (c1 z).2 r (List.mem_range.mpr hr)
  obtain ⟨ρ', g', h1, hg', ps, x5, x6, x7, x8, x9, x10, x11, rfl, J, hst⟩ := whileS_run (c := truthD (varD 4)) (b := seqS (setS 4 (constD (.bool false))) (forS (rangeD (unD lenD (varD 0))) (nameT 5) roomP))
    (fun k ρ g' => g' = g ∧ ∃ ps ch x5 x6 x7 x8 x9 x10 x11, ρ = S13 os D cap ps ch x5 x6 x7 x8 x9 x10 x11 .no ∧ Jp os es cap ps ∧ Up os es cap ps ∧ ((ch = true ∧ k = wgt cap ps + 1) ∨ (ch = false ∧ k = 0 ∧ ∀ r, r < os.length → cutO cap (wantP os es (chs es) ps r) = pF ps r)))
    (fun ρ g' => g' = g ∧ ∃ ps x5 x6 x7 x8 x9 x10 x11, ρ = S13 os D cap ps false x5 x6 x7 x8 x9 x10 x11 .no ∧ Jp os es cap ps ∧ ∀ r, r < os.length → cutO cap (wantP os es (chs es) ps r) = pF ps r) (by
      rintro k ρ g' ⟨e', ps, ch, x5, x6, x7, x8, x9, x10, x11, rfl, J, U, hk⟩
      rw [e']
      rcases hk with ⟨rfl, rfl⟩ | ⟨rfl, rfl, hs⟩
      · obtain ⟨ps', ch', y5, y6, y7, y8, y9, y10, y11, h1, J', U', c1, c2⟩ := pass ps x5 x6 x7 x8 x9 x10 x11 .no J U
        refine .inr ⟨g, S13 os D cap ps' ch' y5 y6 y7 y8 y9 y10 y11 .no, g, if ch' = true then wgt cap ps' + 1 else 0, by simp, ?_, ⟨rfl, ps', ch', _, _, _, _, _, _, _, rfl, J', U', ?_⟩, ?_⟩
        · unfold seqS
          show forS _ _ _ _ _ = _
          exact h1
        · cases ch' with
          | true => exact .inl ⟨rfl, rfl⟩
          | false => exact .inr ⟨rfl, rfl, c1 rfl⟩
        · cases ch' with
          | true => have := c2 rfl; show wgt cap ps' + 1 < wgt cap ps + 1; omega
          | false => show 0 < wgt cap ps + 1; omega
      · exact .inl ⟨by simp, rfl, ps, x5, x6, x7, x8, x9, x10, x11, rfl, J, hs⟩) (wgt cap (List.replicate os.length (some 0)) + 1) (S13 os D cap (List.replicate os.length (some 0)) true .no .no .no .no .no .no .no .no) g ⟨rfl, _, true, _, _, _, _, _, _, _, rfl, .start hc, .start, .inl ⟨rfl, rfl⟩⟩
  rw [hg'] at h1
  refine ⟨ps, J.len, J.val, J.done V.cz fun r hr => ?_, ?_⟩
  · rw [hst r hr]
    exact more_iff.mpr (leO_refl _)
  have hrep : (List.replicate os.length [PyData.int 0]).flatten = (List.replicate os.length (some 0)).map encV := by
    rw [List.map_replicate]
    generalize os.length = n
    induction n with
    | zero => rfl
    | succ n ih => rw [List.replicate_succ, List.flatten_cons, ih]; rfl
  have hz : setOS 3 (mulO (shareO (lstO (consD (constD (.int 0)) nilD))) (unD lenD (varD 0))) [.sh (owD os), .sh D, .sh (.int cap), .no, .no, .no, .no, .no, .no, .no, .no, .no, .no] g = .nx [.sh (owD os), .sh D, .sh (.int cap), .ow (.lst ((List.replicate os.length (some 0)).map encV)), .no, .no, .no, .no, .no, .no, .no, .no, .no] g := by
    simp [mulO, hb, hb2, big, hrep, -List.map_replicate]
  have hbody : b_law_prices [.sh (owD os), .sh D, .no, .no, .no, .no, .no, .no, .no, .no, .no, .no, .no] g = .rt (rowD ps) g := by
    unfold b_law_prices
    refine (seq_eq (ρ1 := [.sh (owD os), .sh D, .sh (.int cap), .no, .no, .no, .no, .no, .no, .no, .no, .no, .no]) (g1 := g) (by simp [hcap])).trans ?_
    refine (seq_eq hz).trans ?_
    refine (seq_eq (a := setS 4 (constD (.bool true))) (ρ1 := S13 os D cap (List.replicate os.length (some 0)) true .no .no .no .no .no .no .no .no) (g1 := g) rfl).trans ?_
    refine (seq_eq h1).trans ?_
    rfl
  unfold m_law_prices fnD
  show (match b_law_prices [.sh (owD os), .sh D, .no, .no, .no, .no, .no, .no, .no, .no, .no, .no, .no] g with | .nx _ g1 => R.ok PyData.none g1 | .rt d g1 => .ok d g1 | .ex k _ g1 => .ex k g1 | _ => .bad) = _
  rw [hbody]
end
section
variable {os : List Int} {ws : List W3} {pl : Int}
/-! ### plans -/
def encK : Option Nat → PyData
  | none => .none
  | some k => .int (k : Int)
abbrev plD (p : List (Option Nat)) : PyData := .tuple (p.map encK)
def optsP (os : List Int) (ws : List W3) (pl : Int) (r : Nat) : List (Option Nat) := if os[r]?.getD 0 = pl then (chs ws r).map some else [none]
def plansP (os : List Int) (ws : List W3) (pl : Int) : Nat → List (List (Option Nat))
  | 0 => [[]]
  | r + 1 => (plansP os ws pl r).flatMap fun p => (optsP os ws pl r).map fun k => p ++ [k]
theorem flat_len {α β : Type} (f : α → List β) (m : Nat) : ∀ l : List α, (∀ x ∈ l, (f x).length = m) → (l.flatMap f).length = l.length * m
  | [], _ => by simp
  | x :: t, h => by
    rw [List.flatMap_cons, List.length_append, flat_len f m t (fun y hy => h y (List.mem_cons_of_mem _ hy)), h x List.mem_cons_self, List.length_cons, Nat.succ_mul]
    omega
theorem plans_len (r : Nat) : (plansP os ws pl (r + 1)).length = (plansP os ws pl r).length * (optsP os ws pl r).length := flat_len _ _ _ fun x _ => by rw [List.length_map]
theorem opts_pos (V : Va os ws) {r : Nat} (hr : r < os.length) : 1 ≤ (optsP os ws pl r).length := by
  unfold optsP
  split
  · rw [List.length_map]
    exact List.length_pos_iff.mpr (chs_ne V hr)
  · simp
theorem opts_le (V : Va os ws) (r : Nat) : (optsP os ws pl r).length ≤ 24 := by
  unfold optsP
  split
  · rw [List.length_map]
    exact chs_len V r
  · simp
theorem plans_up (V : Va os ws) {a b : Nat} (h : a ≤ b) (hb : b ≤ os.length) : (plansP os ws pl a).length ≤ (plansP os ws pl b).length := by
  induction b with
  | zero => obtain rfl : a = 0 := by omega
            exact Nat.le_refl _
  | succ b ih =>
    by_cases e : a = b + 1
    · subst e; exact Nat.le_refl _
    · refine Nat.le_trans (ih (by omega) (by omega)) ?_
      rw [plans_len]
      have := opts_pos (pl := pl) V (r := b) (by omega)
      exact Nat.le_mul_of_pos_right _ this
theorem plan_len : ∀ (r : Nat) (p : List (Option Nat)), p ∈ plansP os ws pl r → p.length = r
  | 0, p, h => by rw [List.mem_singleton.mp h]; rfl
  | r + 1, p, h => by
    obtain ⟨p0, h0, h1⟩ := List.mem_flatMap.mp h
    obtain ⟨k, _, rfl⟩ := List.mem_map.mp h1
    rw [List.length_append, plan_len r p0 h0]; rfl
theorem plan_at : ∀ (r : Nat) (p : List (Option Nat)), p ∈ plansP os ws pl r → ∀ j, j < r → p[j]?.getD none ∈ optsP os ws pl j
  | 0, _, _, j, hj => absurd hj (Nat.not_lt_zero _)
  | r + 1, p, h, j, hj => by
    obtain ⟨p0, h0, h1⟩ := List.mem_flatMap.mp h
    obtain ⟨k, hk, rfl⟩ := List.mem_map.mp h1
    have hl := plan_len r p0 h0
    by_cases e : j = r
    · subst e
      rw [List.getElem?_append_right (by omega), hl, Nat.sub_self]
      exact hk
    · rw [List.getElem?_append_left (by omega)]
      exact plan_at r p0 h0 j (by omega)
theorem plan_mk : ∀ (r : Nat) (p : List (Option Nat)), p.length = r → (∀ j, j < r → p[j]?.getD none ∈ optsP os ws pl j) → p ∈ plansP os ws pl r
  | 0, p, hl, _ => by rw [List.eq_nil_of_length_eq_zero hl]; exact List.mem_singleton.mpr rfl
  | r + 1, p, hl, h => by
    refine List.mem_flatMap.mpr ⟨p.take r, plan_mk r (p.take r) (by rw [List.length_take]; omega) fun j hj => ?_, List.mem_map.mpr ⟨p[r]?.getD none, h r (by omega), ?_⟩⟩
    · rw [List.getElem?_take_of_lt hj]
      exact h j (by omega)
    · have hr : r < p.length := by omega
      rw [List.getElem?_eq_getElem hr]
      show p.take r ++ [p[r]] = p
      have := List.take_append_getElem (i := r) hr
      rw [this, ← hl, List.take_length]
theorem add_plan {p : List (Option Nat)} (hp : p.length ≤ 100) (k : Option Nat) : addD (plD p) (.tuple [encK k]) = some (plD (p ++ [k])) := by
  show (if (p.map encK).length + [encK k].length ≤ big then some (PyData.tuple (p.map encK ++ [encK k])) else none) = _
  rw [if_pos (by rw [List.length_map]; show p.length + 1 ≤ 1000000; omega), plD, List.map_append]
  rfl
theorem opts_list (r : Nat) : ((chs ws r).map natD) = ((chs ws r).map some).map encK := by
  rw [List.map_map]
  rfl
/-- the law's plans -/
theorem lawPlans_ok (V : Va os ws) (hf : (plansP os ws pl os.length).length ≤ 3000) (g : DL.G) : m_law_plans [owD os, wyD ws, .int pl] g = .ok (.list ((plansP os ws pl os.length).map plD)) g := by
  have n2 := V.n2
  have l2 := V.l2
  have hb : ((os.length : Nat) : Int) ≤ 1000000 ∧ -1000000 ≤ ((os.length : Nat) : Int) := by omega
  have hbw : ((ws.length : Nat) : Int) ≤ 1000000 ∧ -1000000 ≤ ((ws.length : Nat) : Int) := by omega
  have hbw2 : ws.length ≤ 1000000 := by omega
  obtain ⟨ρ', g', h1, hg', x4, x5, x6, x7, rfl⟩ := forD_all (t := nameT 4) (body := seqS (setS 5 (shareO (lstO (consD (constD .none) nilD))))
    (seqS (ifS (boolD (opD eqD (opD ixD (varD 0) (varD 4)) (varD 2)))
    (seqS (setOS 5 (lcO (rangeD (unD lenD (varD 1))) [8] (nameT 8) (boolD (opD eqD (opD ixD (opD ixD (varD 1) (varD 8)) (constD (.int 0))) (varD 4))) (varD 8))) (shutS 5 nextS))
    nextS)
    (seqS (setS 6 (shareO (lstO nilD)))
    (seqS (forS (itemsD (varD 3)) (nameT 7)
    (setS 6 (opD addD (varD 6) (shareO (lcO (itemsD (varD 5)) [9] (nameT 9) yesT (opD addD (varD 7) (tupD (consD (varD 9) nilD))))))))
    (setS 3 (varD 6)))))) (fun k : Nat => PyData.int (0 + (k : Int)))
    (fun pre ρ g' => g' = g ∧ ∃ x4 x5 x6 x7, ρ = [.sh (owD os), .sh (wyD ws), .sh (.int pl), .sh (.list ((plansP os ws pl pre.length).map plD)), x4, x5, x6, x7, .no, .no]) (List.range os.length) (by
      rintro pre r post e ρ g' ⟨e', x4, x5, x6, x7, rfl⟩
      obtain ⟨hpl, hr, _⟩ := range_pre e
      rw [hpl, show (pre ++ [r]).length = r + 1 by rw [List.length_append, hpl]; rfl]
      have hup := plans_up (pl := pl) V (a := r + 1) (b := os.length) (by omega) (Nat.le_refl _)
      have e3 := ix_map PyData.int os r os[r] (List.getElem?_eq_getElem hr)
      have ho : os[r]?.getD 0 = os[r] := by rw [List.getElem?_eq_getElem hr]; rfl
      -- the choices
      have hsome : ∃ ρ5, seqS (setS 5 (shareO (lstO (consD (constD .none) nilD)))) (ifS (boolD (opD eqD (opD ixD (varD 0) (varD 4)) (varD 2)))
          (seqS (setOS 5 (lcO (rangeD (unD lenD (varD 1))) [8] (nameT 8) (boolD (opD eqD (opD ixD (opD ixD (varD 1) (varD 8)) (constD (.int 0))) (varD 4))) (varD 8))) (shutS 5 nextS))
          nextS) [.sh (owD os), .sh (wyD ws), .sh (.int pl), .sh (.list ((plansP os ws pl r).map plD)), .sh (.int (r : Int)), x5, x6, x7, .no, .no] g' = .nx ρ5 g' ∧ ρ5 = [.sh (owD os), .sh (wyD ws), .sh (.int pl), .sh (.list ((plansP os ws pl r).map plD)), .sh (.int (r : Int)), .sh (.list ((optsP os ws pl r).map encK)), x6, x7, .no, .no] := by
        refine ⟨_, ?_, rfl⟩
        by_cases hz : os[r] = pl
        · have c1 := compD_pure (t := nameT 8) (cond := boolD (opD eqD (opD ixD (opD ixD (varD 1) (varD 8)) (constD (.int 0))) (varD 4))) (elt := varD 8) (fun k : Nat => PyData.int (0 + (k : Int))) (fun k => decide (((ws[k]?.getD (0, 0, 0)).1 : Int) = (r : Int))) natD (List.range ws.length) [.sh (owD os), .sh (wyD ws), .sh (.int pl), .sh (.list ((plansP os ws pl r).map plD)), .sh (.int (r : Int)), .sh (.list [.none]), x6, x7, .no, .no] g' fun k hk => ⟨[.sh (owD os), .sh (wyD ws), .sh (.int pl), .sh (.list ((plansP os ws pl r).map plD)), .sh (.int (r : Int)), .sh (.list [.none]), x6, x7, .sh (.int (k : Int)), .no], by simp, by
            have hk2 := List.mem_range.mp hk
            have e1 := ix_map encW3 ws k ws[k] (List.getElem?_eq_getElem hk2)
            simp [e1, encW3, eqD, List.getElem?_eq_getElem hk2], fun _ => by simp⟩
          rw [← upFrom_map] at c1
          have hopt : optsP os ws pl r = (chs ws r).map some := by unfold optsP; rw [ho, if_pos hz]
          rw [hopt, ← opts_list]
          unfold chs
          generalize ((List.range ws.length).filter fun k : Nat => decide (((ws[k]?.getD ((0, 0, 0) : W3)).1 : Int) = (r : Int))) = Fk at c1 ⊢
          generalize (plansP os ws pl r).map plD = PD at c1 ⊢
          simp [eqD, e3, hz, hbw, hbw2, big, c1]
        · have hopt : optsP os ws pl r = [none] := by unfold optsP; rw [ho, if_neg hz]
          rw [hopt]
          generalize (plansP os ws pl r).map plD = PD
          simp [eqD, e3, hz, encK]
      obtain ⟨ρ5, hs1, rfl⟩ := hsome
      have hassoc : ∀ s t u : Sm, seqS s (seqS t u) = seqS (seqS s t) u := fun s t u => by
        funext ρ g
        unfold seqS
        cases s ρ g <;> rfl
      have hopl := opts_le (pl := pl) V r
      have hopp := opts_pos (pl := pl) V hr
      have hnow : (plansP os ws pl (r + 1)).length ≤ 3000 := by omega
      rw [plans_len] at hnow
      -- the longer ones
      obtain ⟨ρ6, g6, h6, hg6, y7, rfl⟩ := forD_all (t := nameT 7) (body := setS 6 (opD addD (varD 6) (shareO (lcO (itemsD (varD 5)) [9] (nameT 9) yesT (opD addD (varD 7) (tupD (consD (varD 9) nilD))))))) plD
        (fun pre ρ g'' => g'' = g' ∧ ∃ y7, ρ = [.sh (owD os), .sh (wyD ws), .sh (.int pl), .sh (.list ((plansP os ws pl r).map plD)), .sh (.int (r : Int)), .sh (.list ((optsP os ws pl r).map encK)), .sh (.list ((pre.flatMap fun p => (optsP os ws pl r).map fun k => p ++ [k]).map plD)), y7, .no, .no]) (plansP os ws pl r) (by
          rintro pre2 p post2 ep ρ g'' ⟨e'', y7, rfl⟩
          have hp : p.length ≤ 100 := by
            have := plan_len (os := os) (ws := ws) (pl := pl) r p (by rw [ep]; simp)
            omega
          have hlen : ((pre2.flatMap fun p => (optsP os ws pl r).map fun k => p ++ [k]).map plD).length + (optsP os ws pl r).length ≤ 1000000 := by
            rw [List.length_map, flat_len _ (optsP os ws pl r).length _ fun x _ => by rw [List.length_map]]
            have h2 : pre2.length + 1 ≤ (plansP os ws pl r).length := by
              rw [ep, List.length_append, List.length_cons]; omega
            have h3 : pre2.length * (optsP os ws pl r).length ≤ (plansP os ws pl r).length * (optsP os ws pl r).length := Nat.mul_le_mul_right _ (by omega)
            omega
          refine ⟨[.sh (owD os), .sh (wyD ws), .sh (.int pl), .sh (.list ((plansP os ws pl r).map plD)), .sh (.int (r : Int)), .sh (.list ((optsP os ws pl r).map encK)), .sh (.list ((pre2.flatMap fun p => (optsP os ws pl r).map fun k => p ++ [k]).map plD)), .sh (plD p), .no, .no], [.sh (owD os), .sh (wyD ws), .sh (.int pl), .sh (.list ((plansP os ws pl r).map plD)), .sh (.int (r : Int)), .sh (.list ((optsP os ws pl r).map encK)), .sh (.list (((pre2 ++ [p]).flatMap fun p => (optsP os ws pl r).map fun k => p ++ [k]).map plD)), .sh (plD p), .no, .no], g'', by simp, .inl ?_, e'', _, rfl⟩
          have c2 := compD_pure (t := nameT 9) (cond := yesT) (elt := opD addD (varD 7) (tupD (consD (varD 9) nilD))) encK (fun _ => true) (fun k => plD (p ++ [k])) (optsP os ws pl r) [.sh (owD os), .sh (wyD ws), .sh (.int pl), .sh (.list ((plansP os ws pl r).map plD)), .sh (.int (r : Int)), .sh (.list ((optsP os ws pl r).map encK)), .sh (.list ((pre2.flatMap fun p => (optsP os ws pl r).map fun k => p ++ [k]).map plD)), .sh (plD p), .no, .no] g'' fun k _ => ⟨[.sh (owD os), .sh (wyD ws), .sh (.int pl), .sh (.list ((plansP os ws pl r).map plD)), .sh (.int (r : Int)), .sh (.list ((optsP os ws pl r).map encK)), .sh (.list ((pre2.flatMap fun p => (optsP os ws pl r).map fun k => p ++ [k]).map plD)), .sh (plD p), .no, .sh (encK k)], by simp, rfl, fun _ => by
            have := add_plan hp k
            generalize plD (p ++ [k]) = Z at this ⊢
            generalize plD p = Y at this ⊢
            generalize encK k = Kk at this ⊢
            generalize addD = M at this ⊢
            simp [this]⟩
          rw [List.filter_eq_self.mpr fun _ _ => rfl] at c2
          have hb5 : (optsP os ws pl r).length ≤ 1000000 := by omega
          have e9 : (((pre2 ++ [p]).flatMap fun p => (optsP os ws pl r).map fun k => p ++ [k]).map plD) = ((pre2.flatMap fun p => (optsP os ws pl r).map fun k => p ++ [k]).map plD) ++ (optsP os ws pl r).map fun k => plD (p ++ [k]) := by
            rw [List.flatMap_append, List.map_append]
            simp
          rw [e9]
          have hlo : ((optsP os ws pl r).map encK).length = (optsP os ws pl r).length := by simp
          have hlo2 : ((optsP os ws pl r).map fun k => plD (p ++ [k])).length = (optsP os ws pl r).length := by simp
          generalize ((optsP os ws pl r).map fun k => plD (p ++ [k])) = Z at c2 hlo2 ⊢
          generalize ((pre2.flatMap fun p => (optsP os ws pl r).map fun k => p ++ [k]).map plD) = Y at c2 hlen ⊢
          generalize (optsP os ws pl r).map encK = OD at c2 hlo ⊢
          generalize (plansP os ws pl r).map plD = PD at c2 ⊢
          generalize (opD addD (varD 7) (tupD (consD (varD 9) nilD))) = Ee at c2 ⊢
          have hb6 : Y.length + Z.length ≤ 1000000 := by omega
          have hb7 : OD.length ≤ 1000000 := by omega
          simp [hb6, hb7, big, c2]) (g := g') (ρ := [.sh (owD os), .sh (wyD ws), .sh (.int pl), .sh (.list ((plansP os ws pl r).map plD)), .sh (.int (r : Int)), .sh (.list ((optsP os ws pl r).map encK)), .sh (.list []), x7, .no, .no]) ⟨rfl, _, rfl⟩
      rw [hg6] at h6
      refine ⟨[.sh (owD os), .sh (wyD ws), .sh (.int pl), .sh (.list ((plansP os ws pl r).map plD)), .sh (.int (r : Int)), x5, x6, x7, .no, .no], [.sh (owD os), .sh (wyD ws), .sh (.int pl), .sh (.list ((plansP os ws pl (r + 1)).map plD)), .sh (.int (r : Int)), .sh (.list ((optsP os ws pl r).map encK)), .sh (.list ((plansP os ws pl (r + 1)).map plD)), y7, .no, .no], g', by simp, .inl ?_, e', _, _, _, _, rfl⟩
      rw [hassoc]
      refine (seq_eq hs1).trans ?_
      refine (seq_eq (ρ1 := [.sh (owD os), .sh (wyD ws), .sh (.int pl), .sh (.list ((plansP os ws pl r).map plD)), .sh (.int (r : Int)), .sh (.list ((optsP os ws pl r).map encK)), .sh (.list []), x7, .no, .no]) (g1 := g') rfl).trans ?_
      refine (seq_eq (for_run (g1 := g') rfl h6)).trans ?_
      rfl) (g := g) (ρ := [.sh (owD os), .sh (wyD ws), .sh (.int pl), .sh (.list [.tuple []]), .no, .no, .no, .no, .no, .no]) ⟨rfl, _, _, _, _, rfl⟩
  rw [hg', List.length_range, ← upFrom_map] at h1
  have hbody : b_law_plans [.sh (owD os), .sh (wyD ws), .sh (.int pl), .no, .no, .no, .no, .no, .no, .no] g = .rt (.list ((plansP os ws pl os.length).map plD)) g := by
    unfold b_law_plans
    refine (seq_eq (a := setS 3 (shareO (lstO (consD (tupD nilD) nilD)))) (ρ1 := [.sh (owD os), .sh (wyD ws), .sh (.int pl), .sh (.list [.tuple []]), .no, .no, .no, .no, .no, .no]) (g1 := g) rfl).trans ?_
    refine (seq_eq (for_run (g1 := g) (by simp [hb, big]) h1)).trans ?_
    rfl
  unfold m_law_plans fnD
  show (match b_law_plans [.sh (owD os), .sh (wyD ws), .sh (.int pl), .no, .no, .no, .no, .no, .no, .no] g with | .nx _ g1 => R.ok PyData.none g1 | .rt d g1 => .ok d g1 | .ex k _ g1 => .ex k g1 | _ => .bad) = _
  rw [hbody]
end
end K

set_option Elab.async false
set_option linter.all false
set_option maxRecDepth 100000
set_option maxHeartbeats 400000
namespace K
open PySem DL PyProof.Rows
section
variable {os : List Int} {ws : List W3} {pl : Int} {p : List (Option Nat)}
abbrev pK (p : List (Option Nat)) (r : Nat) : Option Nat := p[r]?.getD none
def kf (ws : List W3) (p : List (Option Nat)) (r : Nat) : List Nat := match pK p r with
  | none => chs ws r
  | some k => [k]
def keepB (ws : List W3) (p : List (Option Nat)) (k : Nat) : Bool := match pK p (ws[k]?.getD (0, 0, 0)).1 with
  | none => true
  | some j => decide (j = k)
def keptL (ws : List W3) (p : List (Option Nat)) : List W3 := ((List.range ws.length).filter (keepB ws p)).map fun k => ws[k]?.getD (0, 0, 0)
theorem pk_opt (h : p ∈ plansP os ws pl os.length) {r : Nat} (hr : r < os.length) : pK p r ∈ optsP os ws pl r := plan_at os.length p h r hr
theorem pk_some (h : p ∈ plansP os ws pl os.length) {r k : Nat} (hr : r < os.length) (hk : pK p r = some k) : os[r] = pl ∧ k ∈ chs ws r := by
  have h1 := pk_opt h hr
  have ho : os[r]?.getD 0 = os[r] := by rw [List.getElem?_eq_getElem hr]; rfl
  rw [hk] at h1
  unfold optsP at h1
  rw [ho] at h1
  split at h1
  · rename_i hz
    obtain ⟨j, hj, e⟩ := List.mem_map.mp h1
    cases e
    exact ⟨hz, hj⟩
  · cases List.mem_singleton.mp h1
theorem pk_none (h : p ∈ plansP os ws pl os.length) {r : Nat} (hr : r < os.length) (hk : pK p r = none) : os[r] ≠ pl := fun z => by
  have h1 := pk_opt h hr
  have ho : os[r]?.getD 0 = os[r] := by rw [List.getElem?_eq_getElem hr]; rfl
  rw [hk] at h1
  unfold optsP at h1
  rw [ho, if_pos z] at h1
  obtain ⟨j, _, e⟩ := List.mem_map.mp h1
  cases e
theorem kept_mem {w : W3} : w ∈ keptL ws p ↔ ∃ k, ws[k]? = some w ∧ (pK p w.1 = none ∨ pK p w.1 = some k) := by
  unfold keptL
  rw [List.mem_map]
  constructor
  · rintro ⟨k, hk, rfl⟩
    rw [List.mem_filter, List.mem_range] at hk
    obtain ⟨h1, h2⟩ := hk
    refine ⟨k, by rw [List.getElem?_eq_getElem h1]; rfl, ?_⟩
    unfold keepB at h2
    split at h2
    · rename_i e; exact .inl e
    · rename_i j e
      have := of_decide_eq_true h2
      subst this
      exact .inr e
  · rintro ⟨k, h1, h2⟩
    have hk := (List.getElem?_eq_some_iff.mp h1).1
    refine ⟨k, ?_, by rw [h1]; rfl⟩
    rw [List.mem_filter, List.mem_range]
    refine ⟨hk, ?_⟩
    unfold keepB
    have e : (ws[k]?.getD (0, 0, 0)).1 = w.1 := by rw [h1]; rfl
    rw [e]
    rcases h2 with h2 | h2
    · rw [h2]
    · rw [h2]; exact decide_eq_true rfl
theorem kept_sub {w : W3} (h : w ∈ keptL ws p) : w ∈ ws := by
  obtain ⟨k, h1, _⟩ := kept_mem.mp h
  exact List.mem_of_getElem? h1
theorem kept_cz (V : Va os ws) (h : p ∈ plansP os ws pl os.length) : Cz os ws (kf ws p) (keptL ws p) := by
  have sub : ∀ r, r < os.length → ∀ k ∈ kf ws p r, k ∈ chs ws r := fun r hr k hk => by
    unfold kf at hk
    split at hk
    · exact hk
    · rename_i j e
      rw [List.mem_singleton.mp hk]
      exact (pk_some h hr e).2
  refine ⟨V.n2, fun r hr z => ?_, fun r => ?_, fun r hr k hk => chs_mem.mp (sub r hr k hk), fun r hr w => ?_, V.w, fun w hw => kept_sub hw⟩
  · unfold kf at z
    split at z
    · exact chs_ne V hr z
    · cases z
  · unfold kf
    split
    · exact chs_len V r
    · simp
  · rw [kept_mem]
    constructor
    · rintro ⟨⟨k, h1, h2⟩, rfl⟩
      refine ⟨k, ?_, h1⟩
      unfold kf
      rcases h2 with h2 | h2
      · rw [h2]; exact chs_mem.mpr ⟨w, h1, rfl⟩
      · rw [h2]; exact List.mem_singleton.mpr rfl
    · rintro ⟨k, h1, h2⟩
      obtain ⟨w', w1, w2⟩ := chs_mem.mp (sub r hr k h1)
      rw [h2] at w1
      cases w1
      refine ⟨⟨k, h2, ?_⟩, w2⟩
      rw [w2]
      unfold kf at h1
      split at h1
      · rename_i e; exact .inl e
      · rename_i j e
        rw [List.mem_singleton.mp h1]
        exact .inr e
theorem kept_va (V : Va os ws) (h : p ∈ plansP os ws pl os.length) : Va os (keptL ws p) := by
  have C := kept_cz V h
  have hall : ∀ r, r < os.length → ∃ w ∈ keptL ws p, w.1 = r := fun r hr => by
    obtain ⟨k, hk⟩ := List.exists_mem_of_ne_nil _ (C.ne r hr)
    obtain ⟨w, w1, _⟩ := C.mem r hr k hk
    exact ⟨w, (C.iff r hr w).mpr ⟨k, hk, w1⟩⟩
  have hl : (keptL ws p).length ≤ ws.length := by
    unfold keptL
    rw [List.length_map]
    have := List.length_filter_le (keepB ws p) (List.range ws.length)
    rwa [List.length_range] at this
  refine ⟨V.n1, V.n2, V.o, ?_, Nat.le_trans hl V.l2, fun w hw => V.w w (kept_sub hw), hall⟩
  obtain ⟨w, h1, _⟩ := hall 0 V.n1
  exact List.length_pos_iff.mpr fun z => by rw [z] at h1; cases h1
theorem ix_plan {r : Nat} (hr : r < p.length) : ixD (plD p) (.int (r : Int)) = some (encK (pK p r)) := by
  have := ix_map encK p r p[r] (List.getElem?_eq_getElem hr)
  rw [this]
  show some (encK p[r]) = some (encK (p[r]?.getD none))
  rw [List.getElem?_eq_getElem hr]; rfl
theorem keptTo_ok (V : Va os ws) (hpl : p.length = os.length) (g : DL.G) : m_kept_to [encA os ws, plD p] g = .ok (.list ((List.range os.length).map fun r => .list ((kf ws p r).map natD))) g := by
  have n2 := V.n2
  have hb : ((os.length : Nat) : Int) ≤ 1000000 ∧ -1000000 ≤ ((os.length : Nat) : Int) := by omega
  have hb2 : os.length ≤ 1000000 := by omega
  have hc := choices_ok V g
  have c1 := compD_pure (t := nameT 3) (cond := yesT) (elt := ifD (boolD (unD isNoneD (opD ixD (varD 1) (varD 3)))) (opD ixD (varD 2) (varD 3)) (shareO (lstO (consD (opD ixD (varD 1) (varD 3)) nilD)))) (fun k : Nat => PyData.int (0 + (k : Int))) (fun _ => true) (fun r => .list ((kf ws p r).map natD)) (List.range os.length)
    [.sh (encA os ws), .sh (plD p), .sh (.list ((List.range os.length).map fun r => .list ((chs ws r).map natD))), .no] g fun r hr => ⟨[.sh (encA os ws), .sh (plD p), .sh (.list ((List.range os.length).map fun r => .list ((chs ws r).map natD))), .sh (.int (r : Int))], by simp, rfl, fun _ => by
      have hr := List.mem_range.mp hr
      have e0 : ixD (.list ((List.range os.length).map fun r => PyData.list ((chs ws r).map natD))) (.int (r : Int)) = some (.list ((chs ws r).map natD)) := ix_mapl _ _ r r (by rw [List.getElem?_range hr])
      have e1 := ix_plan (p := p) (r := r) (by rw [hpl]; exact hr)
      unfold kf
      cases hk : pK p r with
      | none =>
        rw [hk] at e1
        simp only [plD] at e1 ⊢
        simp [e0, e1, encK]
      | some k =>
        rw [hk] at e1
        simp only [plD] at e1 ⊢
        simp [e0, e1, encK]⟩
  rw [List.filter_eq_self.mpr fun _ _ => rfl, ← upFrom_map] at c1
  generalize (List.range os.length).map (fun r => PyData.list ((kf ws p r).map natD)) = Z at c1 ⊢
  have hbody : b_kept_to [.sh (encA os ws), .sh (plD p), .no, .no] g = .rt (.list Z) g := by
    unfold b_kept_to
    refine (seq_eq (ρ1 := [.sh (encA os ws), .sh (plD p), .sh (.list ((List.range os.length).map fun r => .list ((chs ws r).map natD))), .no]) (g1 := g) (by simp [hc])).trans ?_
    generalize (ifD (boolD (unD isNoneD (opD ixD (varD 1) (varD 3)))) (opD ixD (varD 2) (varD 3)) (shareO (lstO (consD (opD ixD (varD 1) (varD 3)) nilD)))) = E at c1 ⊢
    simp only [encA] at c1 ⊢
    simp [hb, hb2, big, c1]
  unfold m_kept_to fnD
  show (match b_kept_to [.sh (encA os ws), .sh (plD p), .no, .no] g with | .nx _ g1 => R.ok PyData.none g1 | .rt d g1 => .ok d g1 | .ex k _ g1 => .ex k g1 | _ => .bad) = _
  rw [hbody]
theorem lawKept_ok (V : Va os ws) (hpl : p.length = os.length) (g : DL.G) : m_law_kept [owD os, wyD ws, plD p] g = .ok (.list ((keptL ws p).map encW3)) g := by
  have l2 := V.l2
  have hbw : ((ws.length : Nat) : Int) ≤ 1000000 ∧ -1000000 ≤ ((ws.length : Nat) : Int) := by omega
  have hbw2 : ws.length ≤ 1000000 := by omega
  have c1 := compD_pure (t := nameT 3) (cond := orT (boolD (unD isNoneD (opD ixD (varD 2) (opD ixD (opD ixD (varD 1) (varD 3)) (constD (.int 0)))))) (boolD (opD eqD (opD ixD (varD 2) (opD ixD (opD ixD (varD 1) (varD 3)) (constD (.int 0)))) (varD 3)))) (elt := opD ixD (varD 1) (varD 3)) (fun k : Nat => PyData.int (0 + (k : Int))) (keepB ws p) (fun k => encW3 (ws[k]?.getD (0, 0, 0))) (List.range ws.length)
    [.sh (owD os), .sh (wyD ws), .sh (plD p), .no] g fun k hk => ⟨[.sh (owD os), .sh (wyD ws), .sh (plD p), .sh (.int (k : Int))], by simp, by
      have hk := List.mem_range.mp hk
      have e1 := ix_map encW3 ws k ws[k] (List.getElem?_eq_getElem hk)
      have e2 := ix_plan (p := p) (r := (ws[k]).1) (by rw [hpl]; exact (V.w _ (List.getElem_mem hk)).1)
      have e3 : ws[k]?.getD (0, 0, 0) = ws[k] := by rw [List.getElem?_eq_getElem hk]; rfl
      unfold keepB
      rw [e3]
      generalize ws[k] = w at e1 e2 ⊢
      cases hp : pK p w.1 with
      | none =>
        rw [hp] at e2
        simp only [plD] at e2 ⊢
        simp [e1, encW3, e2, encK]
      | some j =>
        rw [hp] at e2
        simp only [plD] at e2 ⊢
        by_cases hj : j = k
        · subst hj; simp [e1, encW3, e2, encK, eqD]
        · have : ¬ ((j : Int) = (k : Int)) := by omega
          simp [e1, encW3, e2, encK, eqD, hj]
          try exact this, fun _ => by
      have hk := List.mem_range.mp hk
      have e1 := ix_map encW3 ws k ws[k] (List.getElem?_eq_getElem hk)
      have e3 : ws[k]?.getD (0, 0, 0) = ws[k] := by rw [List.getElem?_eq_getElem hk]; rfl
      rw [e3]
      simp [e1]⟩
  rw [← upFrom_map] at c1
  have e9 : ((List.range ws.length).filter (keepB ws p)).map (fun k => encW3 (ws[k]?.getD (0, 0, 0))) = (keptL ws p).map encW3 := by
    unfold keptL
    rw [List.map_map]
    rfl
  rw [e9] at c1
  generalize (keptL ws p).map encW3 = Z at c1 ⊢
  generalize hT : (orT (boolD (unD isNoneD (opD ixD (varD 2) (opD ixD (opD ixD (varD 1) (varD 3)) (constD (.int 0)))))) (boolD (opD eqD (opD ixD (varD 2) (opD ixD (opD ixD (varD 1) (varD 3)) (constD (.int 0)))) (varD 3)))) = Tt at c1
  have hbody : b_law_kept [.sh (owD os), .sh (wyD ws), .sh (plD p), .no] g = .rt (.list Z) g := by
    unfold b_law_kept
    rw [hT]
    generalize (opD ixD (varD 1) (varD 3)) = E at c1 ⊢
    simp [hbw, hbw2, big, c1]
  unfold m_law_kept fnD
  show (match b_law_kept [.sh (owD os), .sh (wyD ws), .sh (plD p), .no] g with | .nx _ g1 => R.ok PyData.none g1 | .rt d g1 => .ok d g1 | .ex k _ g1 => .ex k g1 | _ => .bad) = _
  rw [hbody]
end
section
variable {os : List Int} {ws es : List W3} {pl : Int} {p : List (Option Nat)} {cf : Nat → List Nat}
theorem isPlanOf_ok (V : Va os ws) (h : p ∈ plansP os ws pl os.length) (g : DL.G) : m_is_plan_of [encA os ws, .int pl, plD p] g = .ok (.bool true) g := by
  have n2 := V.n2
  have hpl := plan_len os.length p h
  have hb : ((os.length : Nat) : Int) ≤ 1000000 ∧ -1000000 ≤ ((os.length : Nat) : Int) := by omega
  have t := tuple_ok (p.map encK) (os.length : Int) (by rw [List.length_map, hpl]) g
  obtain ⟨ρ', g', h1, hg', x3, rfl⟩ := forD_all (t := nameT 3) (body := ifS (boolD (opD neD (opD ixD (opD ixD (varD 0) (constD (.int 0))) (varD 3)) (varD 1)))
    (ifS (boolD (unD notNoneD (opD ixD (varD 2) (varD 3))))
    (retS (constD (.bool false)))
    nextS)
    (ifS (orT (notT (truthD (callD 3 m_is_within (consD (opD ixD (varD 2) (varD 3)) (consD (constD (.int 0)) (consD (opD subD (unD lenD (opD ixD (varD 0) (constD (.int 1)))) (constD (.int 1))) nilD)))))) (boolD (opD neD (opD ixD (opD ixD (opD ixD (varD 0) (constD (.int 1))) (opD ixD (varD 2) (varD 3))) (constD (.int 0))) (varD 3))))
    (retS (constD (.bool false)))
    nextS)) (fun k : Nat => PyData.int (0 + (k : Int))) (fun _ ρ g' => g' = g ∧ ∃ x3, ρ = [.sh (encA os ws), .sh (.int pl), .sh (plD p), x3]) (List.range os.length) (by
      rintro pre r post e ρ g' ⟨e', x3, rfl⟩
      obtain ⟨_, hr, _⟩ := range_pre e
      refine ⟨[.sh (encA os ws), .sh (.int pl), .sh (plD p), .sh (.int (r : Int))], [.sh (encA os ws), .sh (.int pl), .sh (plD p), .sh (.int (r : Int))], g', by simp, .inl ?_, e', _, rfl⟩
      have e3 := ix_map PyData.int os r os[r] (List.getElem?_eq_getElem hr)
      have e2 := ix_plan (p := p) (r := r) (by rw [hpl]; exact hr)
      cases hk : pK p r with
      | none =>
        have hz := pk_none h hr hk
        rw [hk] at e2
        simp only [plD, encA] at e2 ⊢
        simp [neD, eqD, e3, hz, e2, encK]
      | some k =>
        obtain ⟨hz, hc⟩ := pk_some h hr hk
        obtain ⟨w, w1, w2⟩ := chs_mem.mp hc
        have hkl := (List.getElem?_eq_some_iff.mp w1).1
        have e4 := ix_map encW3 ws k w w1
        have e5 := within_ok (v := (k : Int)) (a := 0) (b := (ws.length : Int) - 1) ⟨by omega, by omega⟩ g'
        rw [hk] at e2
        simp only [plD, encA] at e2 ⊢
        simp [neD, eqD, e3, hz, e2, encK, e5, e4, encW3, w2]) (g := g) (ρ := [.sh (encA os ws), .sh (.int pl), .sh (plD p), .no]) ⟨rfl, _, rfl⟩
  rw [hg', ← upFrom_map] at h1
  have hbody : b_is_plan_of [.sh (encA os ws), .sh (.int pl), .sh (plD p), .no] g = .rt (.bool true) g := by
    unfold b_is_plan_of
    refine (seq_eq (ρ1 := [.sh (encA os ws), .sh (.int pl), .sh (plD p), .no]) (g1 := g) ((if_no (g1 := g) (by simp only [plD, encA]; simp [t])).trans rfl)).trans ?_
    refine (seq_eq (for_run (g1 := g) (by simp [encA, hb, big]) h1)).trans ?_
    rfl
  unfold m_is_plan_of fnD
  show (match b_is_plan_of [.sh (encA os ws), .sh (.int pl), .sh (plD p), .no] g with | .nx _ g1 => R.ok PyData.none g1 | .rt d g1 => .ok d g1 | .ex k _ g1 => .ex k g1 | _ => .bad) = _
  rw [hbody]
theorem one_list {cap : Int} {ps qs : List (Option Int)} (h1 : ps.length = os.length) (h2 : qs.length = os.length) (a : IsL (oF os) ws os.length cap (pF ps)) (b : IsL (oF os) ws os.length cap (pF qs)) : ps = qs := by
  apply List.ext_getElem?
  intro i
  by_cases hi : i < os.length
  · have := a.one b i hi
    have e1 : ps[i]? = some ps[i] := List.getElem?_eq_getElem (by omega)
    have e2 : qs[i]? = some qs[i] := List.getElem?_eq_getElem (by omega)
    have h3 : ps[i]?.getD none = qs[i]?.getD none := this
    rw [e1, e2] at h3 ⊢
    exact congrArg some h3
  · rw [List.getElem?_eq_none (by omega), List.getElem?_eq_none (by omega)]
theorem sum8 (n : Nat) : sumTo (fun _ => 8) n = 8 * (n : Int) := by
  induction n with
  | zero => rfl
  | succ n ih => show sumTo (fun _ => 8) n + 8 = _; rw [ih]; omega
theorem sum_le8 (C : Cz os ws cf es) : sumTo (mlF ws cf) os.length ≤ 8 * (os.length : Int) := by
  rw [← sum8]
  exact sumTo_le _ fun r hr => mlF_le C hr
/-- the least prices of the ways that are left: by the law's raising, by the program's -/
theorem prices_of (C : Cz os ws cf es) (V' : Va os es) : ∃ ps : List (Option Int), ps.length = os.length ∧ (∀ x ∈ ps, ∀ v, x = some v → 0 ≤ v ∧ v ≤ 8 * (os.length : Int)) ∧ IsE (oF os) (fun w => w ∈ es) os.length (pF ps) ∧
    (∀ D, (D = PyData.tuple (es.map encW3) ∨ D = PyData.list (es.map encW3)) → ∀ g, m_law_prices [owD os, D] g = .ok (rowD ps) g) ∧
    ∀ g, m_starts_with [owD os, wyD ws, .list ((List.range os.length).map fun r => .list ((cf r).map natD))] g = .ok (rowD ps) g := by
  obtain ⟨ps, h1, h2, h3, _⟩ := lawPrices_ok (.inl rfl) V' none
  have hw : ∀ w ∈ es, w.2.1 < os.length := fun w hw => (V'.w w hw).2.1
  refine ⟨ps, h1, h2, h3.toE hw (mlF_nonneg ws cf) (mlF_loss C) (sum_le8 C), fun D hD g => ?_, fun g => ?_⟩
  · obtain ⟨qs, k1, _, k3, k4⟩ := lawPrices_ok hD V' g
    rw [one_list h1 k1 h3 k3]; exact k4
  · obtain ⟨qs, k1, _, k3, k4⟩ := starts_ok C g
    have h4 := h3.most hw (mlF_nonneg ws cf) (mlF_loss C) (sum_le8 C)
    rw [one_list h1 k1 h4 k3]; exact k4
/-- the prices of all plans -/
theorem plan_prices (V : Va os ws) (pl : Int) : ∃ F : List (Option Nat) → List (Option Int), ∀ p ∈ plansP os ws pl os.length, (F p).length = os.length ∧ IsE (oF os) (fun w => w ∈ keptL ws p) os.length (pF (F p)) ∧
    (∀ g, m_law_prices [owD os, .list ((keptL ws p).map encW3)] g = .ok (rowD (F p)) g) ∧
    ∀ g, m_starts_with [owD os, wyD ws, .list ((List.range os.length).map fun r => .list ((kf ws p r).map natD))] g = .ok (rowD (F p)) g := by
  have key : ∀ p, ∃ ps : List (Option Int), p ∈ plansP os ws pl os.length → ps.length = os.length ∧ IsE (oF os) (fun w => w ∈ keptL ws p) os.length (pF ps) ∧
      (∀ g, m_law_prices [owD os, .list ((keptL ws p).map encW3)] g = .ok (rowD ps) g) ∧
      ∀ g, m_starts_with [owD os, wyD ws, .list ((List.range os.length).map fun r => .list ((kf ws p r).map natD))] g = .ok (rowD ps) g := fun p => by
    by_cases h : p ∈ plansP os ws pl os.length
    · obtain ⟨ps, h1, _, h2, h3, h4⟩ := prices_of (kept_cz V h) (kept_va V h)
      exact ⟨ps, fun _ => ⟨h1, h2, h3 _ (.inr rfl), h4⟩⟩
    · exact ⟨[], fun z => absurd z h⟩
  exact ⟨fun p => (key p).choose, fun p hp => (key p).choose_spec hp⟩
theorem all_prices (V : Va os ws) : ∃ P : List (Option Int), P.length = os.length ∧ (∀ x ∈ P, ∀ v, x = some v → 0 ≤ v ∧ v ≤ 8 * (os.length : Int)) ∧ IsE (oF os) (fun w => w ∈ ws) os.length (pF P) ∧ (∀ g, m_law_prices [owD os, wyD ws] g = .ok (rowD P) g) ∧ ∀ g, m_least_starts [encA os ws] g = .ok (rowD P) g := by
  obtain ⟨P, h1, h2, h3, h4, h5⟩ := prices_of V.cz V
  refine ⟨P, h1, h2, h3, h4 _ (.inl rfl), fun g => ?_⟩
  have hc := choices_ok V g
  have hk := checkArena_ok V g
  have h6 := h5 g
  simp only [encA, rowD] at hc hk h6 ⊢
  simp [m_least_starts, b_least_starts, hk, hc, h6]
theorem startsBy_ok (V : Va os ws) (hp01 : pl = 0 ∨ pl = 1) (h : p ∈ plansP os ws pl os.length) {F : List (Option Int)} (hF : ∀ g, m_starts_with [owD os, wyD ws, .list ((List.range os.length).map fun r => .list ((kf ws p r).map natD))] g = .ok (rowD F) g) (g : DL.G) : m_starts_by [encA os ws, .int pl, plD p] g = .ok (rowD F) g := by
  have hk := checkArena_ok V g
  have hpo := isPlanOf_ok V h g
  have hkt := keptTo_ok V (plan_len os.length p h) g
  have hw : m_is_within [.int pl, .int 0, .int 1] g = .ok (.bool true) g := within_ok (by rcases hp01 with rfl | rfl <;> omega) g
  have hcp : m_check_player [.int pl] g = .ok .none g := by simp [m_check_player, b_check_player, hw]
  have h6 := hF g
  simp only [encA, rowD, plD] at hk hpo hkt h6 ⊢
  simp [m_starts_by, b_starts_by, hk, hcp, hpo, hkt, h6]
/-- some plan tells the least starts -/
theorem plan_ex (V : Va os ws) (hp01 : pl = 0 ∨ pl = 1) {P : List (Option Int)} (hP : IsE (oF os) (fun w => w ∈ ws) os.length (pF P)) : ∃ p ∈ plansP os ws pl os.length, IsE (oF os) (fun w => w ∈ keptL ws p) os.length (pF P) := by
  have hw : ∀ w : W3, w ∈ ws → w.2.1 < os.length := fun w h => (V.w w h).2.1
  have ne : ∀ r, r < os.length → ∃ w : W3, w ∈ ws ∧ w.1 = r := fun r hr => by
    obtain ⟨w, h1, h2⟩ := V.all r hr
    exact ⟨w, h1, h2⟩
  have oat : ∀ r, (hr : r < os.length) → oF os r = os[r] := fun r hr => by show os[r]?.getD 0 = _; rw [List.getElem?_eq_getElem hr]; rfl
  have o01 : ∀ r, r < os.length → oF os r = 0 ∨ oF os r = 1 := fun r hr => by rw [oat r hr]; exact V.o _ (List.getElem_mem hr)
  -- one way a room of the player
  have one : ∃ c : Nat → W3, (∀ r, r < os.length → c r ∈ ws ∧ (c r).1 = r) ∧ IsE (oF os) (fun w => w ∈ ws ∧ (oF os w.1 = pl → w = c w.1)) os.length (pF P) := by
    rcases hp01 with rfl | rfl
    · exact keep0 hw ne hP
    · obtain ⟨c, h1, h2⟩ := spoil1 hw ws (fun _ h => h) ne hP
      refine ⟨c, h1, ?_⟩
      have e : (fun w : W3 => w ∈ ws ∧ (oF os w.1 = 1 → w = c w.1)) = fun w => w ∈ ws ∧ (w.1 < os.length → oF os w.1 ≠ 0 → w = c w.1) := by
        funext w
        refine propext ⟨fun z => ⟨z.1, fun h1 h2 => z.2 ?_⟩, fun z => ⟨z.1, fun h => z.2 (V.w w z.1).1 (by rw [h]; decide)⟩⟩
        rcases o01 w.1 h1 with h | h
        · exact absurd h h2
        · exact h
      rw [e]; exact h2
  obtain ⟨c, hc, A⟩ := one
  -- its places
  have place : ∀ r, ∃ k : Nat, r < os.length → ws[k]? = some (c r) := fun r => by
    by_cases hr : r < os.length
    · obtain ⟨k, hk, e⟩ := List.getElem_of_mem (hc r hr).1
      exact ⟨k, fun _ => by rw [List.getElem?_eq_getElem hk, e]⟩
    · exact ⟨0, fun z => absurd z hr⟩
  let kk : Nat → Nat := fun r => (place r).choose
  have hkk : ∀ r, r < os.length → ws[kk r]? = some (c r) := fun r hr => (place r).choose_spec hr
  let p : List (Option Nat) := (List.range os.length).map fun r => if oF os r = pl then some (kk r) else none
  have pat : ∀ r, r < os.length → pK p r = if oF os r = pl then some (kk r) else none := fun r hr => by
    show ((List.range os.length).map _)[r]?.getD none = _
    rw [List.getElem?_map, List.getElem?_range hr]; rfl
  have hp : p ∈ plansP os ws pl os.length := by
    refine plan_mk os.length p (by simp [p]) fun r hr => ?_
    show pK p r ∈ _
    rw [pat r hr]
    unfold optsP
    by_cases hz : os[r]?.getD 0 = pl
    · rw [if_pos hz, if_pos hz]
      exact List.mem_map.mpr ⟨kk r, chs_mem.mpr ⟨c r, hkk r hr, (hc r hr).2⟩, rfl⟩
    · rw [if_neg hz, if_neg hz]
      exact List.mem_singleton.mpr rfl
  refine ⟨p, hp, ?_⟩
  have e : (fun w : W3 => w ∈ keptL ws p) = fun w => w ∈ ws ∧ (oF os w.1 = pl → w = c w.1) := by
    funext w
    refine propext ⟨fun z => ?_, fun z => ?_⟩
    · obtain ⟨k, h1, h2⟩ := kept_mem.mp z
      have hm := List.mem_of_getElem? h1
      have hr := (V.w w hm).1
      refine ⟨hm, fun ho => ?_⟩
      rw [pat _ hr, if_pos ho] at h2
      rcases h2 with h2 | h2
      · cases h2
      · cases h2
        have := hkk w.1 hr
        rw [h1] at this
        exact Option.some.inj this
    · have hr := (V.w w z.1).1
      by_cases ho : oF os w.1 = pl
      · have hwc := z.2 ho
        refine kept_mem.mpr ⟨kk w.1, by rw [hkk _ hr, ← hwc], .inr ?_⟩
        rw [pat _ hr, if_pos ho]
      · obtain ⟨k, hk, e⟩ := List.getElem_of_mem z.1
        refine kept_mem.mpr ⟨k, by rw [List.getElem?_eq_getElem hk, e], .inl ?_⟩
        rw [pat _ hr, if_neg ho]
  rw [e]; exact A
/-- a plan of 0 asks for no less, a plan of 1 for no more -/
theorem plan_cmp (V : Va os ws) (h : p ∈ plansP os ws pl os.length) {P F : List (Option Int)} (hP : IsE (oF os) (fun w => w ∈ ws) os.length (pF P)) (hF : IsE (oF os) (fun w => w ∈ keptL ws p) os.length (pF F)) :
    (pl = 0 → ∀ r, r < os.length → leO (pF P r) (pF F r)) ∧ (pl = 1 → ∀ r, r < os.length → leO (pF F r) (pF P r)) := by
  have oat : ∀ r, (hr : r < os.length) → oF os r = os[r] := fun r hr => by show os[r]?.getD 0 = _; rw [List.getElem?_eq_getElem hr]; rfl
  have keep : ∀ w : W3, w ∈ ws → oF os w.1 ≠ pl → w ∈ keptL ws p := fun w hw ho => by
    have hr := (V.w w hw).1
    obtain ⟨k, hk, e⟩ := List.getElem_of_mem hw
    refine kept_mem.mpr ⟨k, by rw [List.getElem?_eq_getElem hk, e], .inl ?_⟩
    cases e2 : pK p w.1 with
    | none => rfl
    | some j => exact absurd (by rw [oat _ hr]; exact (pk_some h hr e2).1) ho
  refine ⟨fun hz => ?_, fun hz => ?_⟩
  · subst hz
    exact IsE.fewer0 (fun w z => kept_sub z) (fun w z1 z2 => keep w z1 z2) hP hF
  · subst hz
    exact IsE.fewer1 (fun w z => kept_sub z) (fun w z1 z2 => keep w z1 (by rw [z2]; decide)) hP hF
end
section
variable {os : List Int} {ws : List W3} {pl : Int}
/-! ### few plans -/
def cntTo (ws : List W3) (k : Nat) : Nat := ((List.range ws.length).filter fun j => decide ((ws[j]?.getD (0, 0, 0)).1 < k)).length
theorem filt_or {α : Type} (p q r : α → Bool) (h : ∀ x, r x = (p x || q x)) (hd : ∀ x, ¬ (p x = true ∧ q x = true)) : ∀ l : List α, (l.filter r).length = (l.filter p).length + (l.filter q).length
  | [] => rfl
  | x :: t => by
    have ih := filt_or p q r h hd t
    have h1 := h x
    have h2 := hd x
    cases hp : p x <;> cases hq : q x <;> simp_all [List.filter_cons] <;> omega
theorem cntTo_succ (k : Nat) : cntTo ws (k + 1) = cntTo ws k + (chs ws k).length := by
  unfold cntTo chs
  refine filt_or _ _ _ (fun j => ?_) (fun j h => ?_) _
  · generalize (ws[j]?.getD (0, 0, 0)).1 = s
    by_cases h1 : s < k
    · simp [h1]; omega
    · by_cases h2 : s = k
      · simp [h2]
      · have : ¬ (s : Int) = (k : Int) := by omega
        have : ¬ s < k + 1 := by omega
        simp [*]
  · have h1 := of_decide_eq_true h.1
    have h2 := of_decide_eq_true h.2
    omega
theorem cntTo_le (k : Nat) : cntTo ws k ≤ ws.length := by
  unfold cntTo
  have := List.length_filter_le (fun j : Nat => decide ((ws[j]?.getD ((0, 0, 0) : W3)).1 < k)) (List.range ws.length)
  rwa [List.length_range] at this
theorem pow_ge : ∀ c : Nat, c + 1 ≤ 2 ^ c
  | 0 => Nat.le_refl _
  | c + 1 => by
    have := pow_ge c
    rw [Nat.pow_succ]
    omega
theorem plans_few (V : Va os ws) : ∀ k, k ≤ os.length → k ≤ cntTo ws k ∧ (plansP os ws pl k).length ≤ 2 ^ (cntTo ws k - k)
  | 0, _ => ⟨Nat.zero_le _, Nat.one_le_two_pow⟩
  | k + 1, hk => by
    obtain ⟨h1, h2⟩ := plans_few V k (by omega)
    have hc := List.length_pos_iff.mpr (chs_ne V (r := k) (by omega))
    have ho : (optsP os ws pl k).length ≤ (chs ws k).length := by
      unfold optsP
      split
      · rw [List.length_map]; exact Nat.le_refl _
      · exact hc
    have hp := pow_ge ((chs ws k).length - 1)
    rw [cntTo_succ]
    refine ⟨by omega, ?_⟩
    rw [plans_len]
    have e : cntTo ws k + (chs ws k).length - (k + 1) = (cntTo ws k - k) + ((chs ws k).length - 1) := by omega
    rw [e, Nat.pow_add]
    exact Nat.mul_le_mul h2 (by omega)
theorem plans_3000 (V : Va os ws) (h : ws.length ≤ 2 * os.length + 1) (h5 : os.length ≤ 5) : (plansP os ws pl os.length).length ≤ 3000 := by
  obtain ⟨h1, h2⟩ := plans_few (pl := pl) V os.length (Nat.le_refl _)
  have h3 := cntTo_le (ws := ws) os.length
  have h4 : 2 ^ (cntTo ws os.length - os.length) ≤ 2 ^ 6 := Nat.pow_le_pow_right (by decide) (by omega)
  have : (2 : Nat) ^ 6 = 64 := rfl
  omega
end
/-! ### the drawn arena -/
def Wv (R : Nat) (w : W3) : Prop := w.1 < R ∧ w.2.1 < R ∧ -8 ≤ w.2.2 ∧ w.2.2 ≤ 8
theorem drawM {ms : List Int} {g : G} (hg : Dr ms g) {n : Int} (hn : 0 < n) : ∃ (r : Int) (g' : G), 0 ≤ r % n ∧ r % n < n ∧ m_law_draw [] g = .ok (.int r) g' ∧ Dr ms g' := by
  obtain ⟨r, g', h, hg'⟩ := draw_any hg
  exact ⟨r, g', (md_bd hn).1, (md_bd hn).2, h, hg'⟩
theorem arena_ok {ms : List Int} {g : G} (hg : Dr ms g) (n : Nat) (h1 : 1 ≤ n) (h5 : n ≤ 5) : ∃ os ws g', Va os ws ∧ os.length = n ∧ ws.length ≤ 2 * n + 1 ∧ Dr ms g' ∧ m_law_arena [.int (n : Int)] g = .ok (encA os ws) g' := by
  have hb : (n : Int) ≤ 1000000 ∧ -1000000 ≤ (n : Int) := by omega
  have hb2 : n ≤ 1000000 := by omega
  have n0 : (0 : Int) < (n : Int) := by omega
  -- owners
  obtain ⟨ys, g1, c1, hg1, os, rfl, hol, ho⟩ := compD_all (t := nameT 5) (cond := yesT) (elt := opD modD (callG 1 0 m_law_draw nilD) (constD (.int 2))) (fun k : Nat => PyData.int (0 + (k : Int)))
    (fun pre ys g => Dr ms g ∧ ∃ os : List Int, ys = os.map PyData.int ∧ os.length = pre.length ∧ ∀ x ∈ os, x = 0 ∨ x = 1) (List.range n) [.dr, .sh (.int (n : Int)), .no, .no, .no, .no] (by
      rintro pre k post e ys g ⟨hg, os, rfl, hl, ho⟩
      obtain ⟨r, g2, r0, r1, hd, hg2⟩ := drawM hg (n := 2) (by decide)
      refine ⟨[.dr, .sh (.int (n : Int)), .no, .no, .no, .sh (.int (0 + (k : Int)))], g, rfl, .inr ⟨rfl, .int (r % 2), g2, by simp [hd], hg2, os ++ [r % 2], by rw [List.map_append]; rfl, by rw [List.length_append, List.length_append, hl]; rfl, fun x hx => ?_⟩⟩
      rcases List.mem_append.mp hx with z | z
      · exact ho x z
      · rw [List.mem_singleton.mp z]; omega) (g := g) ⟨hg, [], rfl, rfl, fun _ h => nomatch h⟩
  rw [List.length_range] at hol
  rw [← upFrom_map] at c1
  -- the first ways
  obtain ⟨ys, g2, c2, hg2, ws, rfl, hwl, hws, hat⟩ := compD_all (t := nameT 5) (cond := yesT) (elt := tupD (consD (varD 5) (consD (opD modD (callG 1 0 m_law_draw nilD) (varD 1)) (consD (opD ixD (shareO (lstO (consD (opD subD (opD modD (callG 1 0 m_law_draw nilD) (constD (.int 5))) (constD (.int 2))) (consD (opD subD (opD modD (callG 1 0 m_law_draw nilD) (constD (.int 17))) (constD (.int 8))) nilD)))) (opD modD (callG 1 0 m_law_draw nilD) (constD (.int 2)))) nilD)))) (fun k : Nat => PyData.int (0 + (k : Int)))
    (fun pre ys g => Dr ms g ∧ ∃ ws : List W3, ys = ws.map encW3 ∧ ws.length = pre.length ∧ (∀ w ∈ ws, Wv n w) ∧ ∀ r, r < pre.length → ∃ w ∈ ws, w.1 = r) (List.range n) [.dr, .sh (.int (n : Int)), .sh (owD os), .no, .no, .no] (by
      rintro pre k post e ys g ⟨hg, ws, rfl, hl, hv, hat⟩
      obtain ⟨hpl, hk, _⟩ := range_pre e
      obtain ⟨t, g3, t0, t1, hd3, hg3⟩ := drawM hg (n := (n : Int)) n0
      obtain ⟨a, g4, a0, a1, hd4, hg4⟩ := drawM hg3 (n := 5) (by decide)
      obtain ⟨b, g5, b0, b1, hd5, hg5⟩ := drawM hg4 (n := 17) (by decide)
      obtain ⟨c, g6, c0, c1, hd6, hg6⟩ := drawM hg5 (n := 2) (by decide)
      obtain ⟨tn, htn⟩ : ∃ tn : Nat, t % (n : Int) = (tn : Int) := ⟨(t % (n : Int)).toNat, by omega⟩
      obtain ⟨am, ham, hix⟩ : ∃ am : Int, (-8 ≤ am ∧ am ≤ 8) ∧ ixD (.list [.int (a % 5 - 2), .int (b % 17 - 8)]) (.int (c % 2)) = some (.int am) := by
        rcases (by omega : c % 2 = 0 ∨ c % 2 = 1) with h | h
        · rw [h]; exact ⟨a % 5 - 2, by omega, rfl⟩
        · rw [h]; exact ⟨b % 17 - 8, by omega, rfl⟩
      have hmd : modD (.int t) (.int (n : Int)) = some (.int (tn : Int)) := by rw [md n0, htn]
      refine ⟨[.dr, .sh (.int (n : Int)), .sh (owD os), .no, .no, .sh (.int (k : Int))], g, by simp, .inr ⟨rfl, encW3 (k, tn, am), g6, ?_, hg6, ws ++ [(k, tn, am)], by rw [List.map_append]; rfl, by rw [List.length_append, List.length_append, hl]; rfl, fun w hw => ?_, fun r hr => ?_⟩⟩
      · have m5 : modD (.int a) (.int 5) = some (.int (a % 5)) := md (by decide)
        have m17 : modD (.int b) (.int 17) = some (.int (b % 17)) := md (by decide)
        have m2 : modD (.int c) (.int 2) = some (.int (c % 2)) := md (by decide)
        have s2 : subD (.int (a % 5)) (.int 2) = some (.int (a % 5 - 2)) := rfl
        have s8 : subD (.int (b % 17)) (.int 8) = some (.int (b % 17 - 8)) := rfl
        generalize a % 5 - 2 = A at hix s2
        generalize b % 17 - 8 = Bv at hix s8
        generalize c % 2 = Cv at hix m2
        generalize a % 5 = A5 at m5 s2
        generalize b % 17 = B17 at m17 s8
        generalize hM : modD = M at hmd m5 m17 m2 ⊢
        generalize hI : ixD = Ix at hix ⊢
        generalize hS : subD = Sb at s2 s8 ⊢
        simp [encW3, hd3, hd4, hd5, hd6, hmd, m5, m17, m2, s2, s8, hix]
      · rcases List.mem_append.mp hw with z | z
        · exact hv w z
        · rw [List.mem_singleton.mp z]
          exact ⟨hk, by show tn < n; omega, ham.1, ham.2⟩
      · rw [List.length_append, show [k].length = 1 from rfl] at hr
        by_cases hrk : r = k
        · exact ⟨(k, tn, am), by simp, hrk.symm⟩
        · obtain ⟨w, w1, w2⟩ := hat r (by omega)
          exact ⟨w, List.mem_append_left _ w1, w2⟩) (g := g1) ⟨hg1, [], rfl, rfl, (fun _ h => nomatch h), fun r h => absurd h (Nat.not_lt_zero _)⟩
  rw [List.length_range] at hwl hat
  rw [← upFrom_map] at c2
  -- some more
  obtain ⟨r, g3, r0, r1, hd3, hg3⟩ := drawM hg2 (n := (n : Int) + 2) (by omega)
  obtain ⟨m, hm⟩ : ∃ m : Nat, r % ((n : Int) + 2) = (m : Int) := ⟨(r % ((n : Int) + 2)).toNat, by omega⟩
  obtain ⟨ρ', g4, h4, hg4, ws2, x4, rfl, hl2, hv2, hsub⟩ := forD_all (t := nameT 4) (body := appS 3 (tupD (consD (opD modD (callG 1 0 m_law_draw nilD) (varD 1)) (consD (opD modD (callG 1 0 m_law_draw nilD) (varD 1)) (consD (opD subD (opD modD (callG 1 0 m_law_draw nilD) (constD (.int 7))) (constD (.int 3))) nilD))))) (fun k : Nat => PyData.int (0 + (k : Int)))
    (fun pre ρ g => Dr ms g ∧ ∃ (ws2 : List W3) (x4 : Sl), ρ = [.dr, .sh (.int (n : Int)), .sh (owD os), .ow (.lst (ws2.map encW3)), x4, .no] ∧ ws2.length = n + pre.length ∧ (∀ w ∈ ws2, Wv n w) ∧ ∀ w ∈ ws, w ∈ ws2) (List.range m) (by
      rintro pre k post e ρ g ⟨hg, ws2, x4, rfl, hl, hv, hsub⟩
      obtain ⟨hpl, hk, _⟩ := range_pre e
      obtain ⟨s, g5, s0, s1, hd5, hg5⟩ := drawM hg (n := (n : Int)) n0
      obtain ⟨t, g6, t0, t1, hd6, hg6⟩ := drawM hg5 (n := (n : Int)) n0
      obtain ⟨a, g7, a0, a1, hd7, hg7⟩ := drawM hg6 (n := 7) (by decide)
      obtain ⟨sn, hsn⟩ : ∃ sn : Nat, s % (n : Int) = (sn : Int) := ⟨(s % (n : Int)).toNat, by omega⟩
      obtain ⟨tn, htn⟩ : ∃ tn : Nat, t % (n : Int) = (tn : Int) := ⟨(t % (n : Int)).toNat, by omega⟩
      have hb4 : ws2.length < 1000000 := by omega
      refine ⟨[.dr, .sh (.int (n : Int)), .sh (owD os), .ow (.lst (ws2.map encW3)), .sh (.int (k : Int)), .no], [.dr, .sh (.int (n : Int)), .sh (owD os), .ow (.lst ((ws2 ++ [(sn, tn, a % 7 - 3)]).map encW3)), .sh (.int (k : Int)), .no], g7, by simp, .inl ?_, hg7, _, _, rfl, by rw [List.length_append, List.length_append, hl]; simp; omega, fun w hw => ?_, fun w hw => List.mem_append_left _ (hsub w hw)⟩
      · have ms1 : modD (.int s) (.int (n : Int)) = some (.int (sn : Int)) := by rw [md n0, hsn]
        have mt1 : modD (.int t) (.int (n : Int)) = some (.int (tn : Int)) := by rw [md n0, htn]
        have m7 : modD (.int a) (.int 7) = some (.int (a % 7)) := md (by decide)
        rw [List.map_append]
        generalize hM : modD = M at ms1 mt1 m7 ⊢
        generalize ha7 : a % 7 = A7 at m7 ⊢
        simp [encW3, hd5, hd6, hd7, ms1, mt1, m7, hb4, big]
      · rcases List.mem_append.mp hw with z | z
        · exact hv w z
        · rw [List.mem_singleton.mp z]
          exact ⟨by show sn < n; omega, by show tn < n; omega, by show -8 ≤ a % 7 - 3; omega, by show a % 7 - 3 ≤ 8; omega⟩) (g := g3) (ρ := [.dr, .sh (.int (n : Int)), .sh (owD os), .ow (.lst (ws.map encW3)), .no, .no]) ⟨hg3, ws, .no, rfl, by rw [hwl]; rfl, hws, fun _ h => h⟩
  rw [List.length_range] at hl2
  rw [← upFrom_map] at h4
  have hlen2 : ws2.length ≤ 2 * n + 1 := by omega
  refine ⟨os, ws2, g4, ⟨by omega, by omega, ho, by omega, by omega, fun w hw => ?_, fun r hr => ?_⟩, hol, hlen2, hg4, ?_⟩
  · rw [hol]; exact hv2 w hw
  · rw [hol] at hr
    obtain ⟨w, w1, w2⟩ := hat r hr
    exact ⟨w, hsub w w1, w2⟩
  have hbody : b_law_arena [.dr, .sh (.int (n : Int)), .no, .no, .no, .no] g = .rt (encA os ws2) g4 := by
    unfold b_law_arena
    refine (seq_eq (ρ1 := [.dr, .sh (.int (n : Int)), .sh (owD os), .no, .no, .no]) (g1 := g1) ?_).trans ?_
    · generalize (opD modD (callG 1 0 m_law_draw nilD) (constD (.int 2))) = E at c1 ⊢
      simp [hb, hb2, big, c1]
    refine (seq_eq (ρ1 := [.dr, .sh (.int (n : Int)), .sh (owD os), .ow (.lst (ws.map encW3)), .no, .no]) (g1 := g2) ?_).trans ?_
    · generalize (tupD (consD (varD 5) (consD (opD modD (callG 1 0 m_law_draw nilD) (varD 1)) (consD (opD ixD (shareO (lstO (consD (opD subD (opD modD (callG 1 0 m_law_draw nilD) (constD (.int 5))) (constD (.int 2))) (consD (opD subD (opD modD (callG 1 0 m_law_draw nilD) (constD (.int 17))) (constD (.int 8))) nilD)))) (opD modD (callG 1 0 m_law_draw nilD) (constD (.int 2)))) nilD)))) = E at c2 ⊢
      simp [hb, hb2, big, c2]
    refine (seq_eq (for_run (g1 := g3) ?_ h4)).trans ?_
    · have hmd : modD (.int r) (.int ((n : Int) + 2)) = some (.int (m : Int)) := by rw [md (by omega), hm]
      have hbm : (m : Int) ≤ 1000000 ∧ -1000000 ≤ (m : Int) := by omega
      generalize hM : modD = M at hmd ⊢
      simp [hd3, hmd, hbm, big]
    · rfl
  unfold m_law_arena fnD
  show (match b_law_arena [.dr, .sh (.int (n : Int)), .no, .no, .no, .no] g with | .nx _ g1 => R.ok PyData.none g1 | .rt d g1 => .ok d g1 | .ex k _ g1 => .ex k g1 | _ => .bad) = _
  rw [hbody]
end K

set_option Elab.async false
set_option linter.all false
set_option maxRecDepth 100000
set_option maxHeartbeats 400000
namespace K
open PySem DL PyProof.Rows
/-! ### one way a room -/
structure Ow1 (n : Nat) (L : List W3) : Prop where
  len : L.length = n
  src : ∀ r, r < n → (L[r]?.getD (0, 0, 0)).1 = r
  tgt : ∀ w ∈ L, w.2.1 < n
section
variable {n : Nat} {L : List W3} {room : Nat}
abbrev wayA (L : List W3) (r : Nat) : W3 := L[r]?.getD (0, 0, 0)
def traj (L : List W3) (room : Nat) : Nat → Nat × Int
  | 0 => (room, 0)
  | k + 1 => ((wayA L (traj L room k).1).2.1, (traj L room k).2 + (wayA L (traj L room k).1).2.2)
def lowW (L : List W3) (room : Nat) : Nat → Int
  | 0 => 0
  | k + 1 => if (traj L room (k + 1)).2 < lowW L room k then (traj L room (k + 1)).2 else lowW L room k
theorem Ow1.mem (O : Ow1 n L) {r : Nat} (hr : r < n) : wayA L r ∈ L := by
  have h : r < L.length := by rw [O.len]; exact hr
  show L[r]?.getD (0, 0, 0) ∈ L
  rw [List.getElem?_eq_getElem h]
  exact List.getElem_mem h
theorem Ow1.only (O : Ow1 n L) {w : W3} (hw : w ∈ L) : w.1 < n ∧ w = wayA L w.1 := by
  obtain ⟨i, hi, rfl⟩ := List.getElem_of_mem hw
  have hi2 : i < n := by rw [← O.len]; exact hi
  have h1 := O.src i hi2
  have e : wayA L i = L[i] := by show L[i]?.getD (0, 0, 0) = _; rw [List.getElem?_eq_getElem hi]; rfl
  have e1 : (L[i]).1 = i := by rw [← e]; exact h1
  exact ⟨by omega, by rw [e1, e]⟩
theorem traj_lt (O : Ow1 n L) (hr : room < n) : ∀ k, (traj L room k).1 < n
  | 0 => hr
  | k + 1 => O.tgt _ (O.mem (traj_lt O hr k))
theorem low_le (L : List W3) (room : Nat) : ∀ K k, k ≤ K → lowW L room K ≤ (traj L room k).2
  | 0, k, h => by
    obtain rfl : k = 0 := by omega
    exact Int.le_refl _
  | K + 1, k, h => by
    show (if (traj L room (K + 1)).2 < lowW L room K then (traj L room (K + 1)).2 else lowW L room K) ≤ _
    by_cases e : k = K + 1
    · subst e; split <;> omega
    · have := low_le L room K k (by omega)
      split <;> omega
theorem low_at (L : List W3) (room : Nat) : ∀ K, ∃ k, k ≤ K ∧ lowW L room K = (traj L room k).2
  | 0 => ⟨0, Nat.le_refl _, rfl⟩
  | K + 1 => by
    obtain ⟨k, h1, h2⟩ := low_at L room K
    show ∃ k, k ≤ K + 1 ∧ (if (traj L room (K + 1)).2 < lowW L room K then (traj L room (K + 1)).2 else lowW L room K) = _
    split
    · exact ⟨K + 1, Nat.le_refl _, rfl⟩
    · exact ⟨k, by omega, h2⟩
/-- in a one-way arena either player's rooms ask alike -/
theorem one_ok (O : Ow1 n L) {o : Nat → Int} {p : Nat → Option Int} {r : Nat} (hr : r < n) {m : Int} : OkE o (fun w => w ∈ L) p r m ↔ leO (p (wayA L r).2.1) (some (m + (wayA L r).2.2)) := by
  have h1 := O.src r hr
  have hm := O.mem hr
  unfold OkE
  split
  · constructor
    · rintro ⟨w, w1, w2, w3⟩
      obtain ⟨_, e⟩ := O.only w1
      rw [w2] at e
      rw [← e]; exact w3
    · intro h
      exact ⟨_, hm, h1, h⟩
  · constructor
    · intro h
      exact h _ hm h1
    · intro h w w1 w2
      obtain ⟨_, e⟩ := O.only w1
      rw [w2] at e
      rw [e]; exact h
theorem traj_le (O : Ow1 n L) (hr : room < n) {o : Nat → Int} {p : Nat → Option Int} (hp : PreE o (fun w => w ∈ L) n p) {m : Int} (hm : p room = some m) : ∀ k, ∃ v, p (traj L room k).1 = some v ∧ v ≤ m + (traj L room k).2
  | 0 => ⟨m, hm, by show m ≤ m + 0; omega⟩
  | k + 1 => by
    obtain ⟨v, h1, h2⟩ := traj_le O hr hp hm k
    have hk := traj_lt O hr k
    obtain ⟨_, h3⟩ := hp _ hk v h1
    obtain ⟨u, h4, h5⟩ := leO_some ((one_ok O hk).mp h3)
    exact ⟨u, h4, by show u ≤ m + ((traj L room k).2 + (wayA L (traj L room k).1).2.2); omega⟩
/-- from a state of the path on -/
theorem traj_from (O : Ow1 n L) (hr : room < n) {o : Nat → Int} {p : Nat → Option Int} (hp : PreE o (fun w => w ∈ L) n p) {j : Nat} {v : Int} (hv : p (traj L room j).1 = some v) : ∀ k, j ≤ k → ∃ u, p (traj L room k).1 = some u ∧ u ≤ v + ((traj L room k).2 - (traj L room j).2) := by
  intro k hk
  induction k with
  | zero =>
    obtain rfl : j = 0 := by omega
    exact ⟨v, hv, by omega⟩
  | succ k ih =>
    by_cases e : j = k + 1
    · subst e; exact ⟨v, hv, by omega⟩
    · obtain ⟨w, h1, h2⟩ := ih (by omega)
      have hkl := traj_lt O hr k
      obtain ⟨_, h3⟩ := hp _ hkl w h1
      obtain ⟨u, h4, h5⟩ := leO_some ((one_ok O hkl).mp h3)
      refine ⟨u, h4, ?_⟩
      show u ≤ v + ((traj L room k).2 + (wayA L (traj L room k).1).2.2 - (traj L room j).2)
      omega
/-- what a play needs is the least price -/
theorem alone_val (O : Ow1 n L) (hr : room < n) {o : Nat → Int} {p : Nat → Option Int} (hp : IsE o (fun w => w ∈ L) n p) {j K : Nat} (hj : j < K) (he : (traj L room j).1 = (traj L room K).1) (hd : ∀ a b, a < b → b < K → (traj L room a).1 ≠ (traj L room b).1) :
    p room = if (traj L room K).2 < (traj L room j).2 then none else some (-(lowW L room K)) := by
  by_cases hlt : (traj L room K).2 < (traj L room j).2
  · rw [if_pos hlt]
    cases e : p room with
    | none => rfl
    | some m =>
      exfalso
      obtain ⟨v, h1, h2⟩ := traj_le O hr hp.pre e j
      obtain ⟨u, h3, h4⟩ := traj_from O hr hp.pre h1 K (by omega)
      rw [← he, h1] at h3
      cases h3
      omega
  · rw [if_neg hlt]
    -- a price along the path
    classical
    let q : Nat → Option Int := fun r => if h : ∃ k, k < K ∧ (traj L room k).1 = r then some ((traj L room h.choose).2 - lowW L room K) else none
    have qat : ∀ k, k < K → q (traj L room k).1 = some ((traj L room k).2 - lowW L room K) := fun k hk => by
      have h : ∃ i, i < K ∧ (traj L room i).1 = (traj L room k).1 := ⟨k, hk, rfl⟩
      have e1 : q (traj L room k).1 = some ((traj L room h.choose).2 - lowW L room K) := dif_pos h
      obtain ⟨c1, c2⟩ := h.choose_spec
      have e2 : h.choose = k := by
        rcases Nat.lt_trichotomy h.choose k with z | z | z
        · exact absurd c2 (hd _ _ z hk)
        · exact z
        · exact absurd c2.symm (hd _ _ z c1)
      rw [e1, e2]
    have hq : PreE o (fun w => w ∈ L) n q := by
      intro r hr2 m hm
      by_cases h : ∃ k, k < K ∧ (traj L room k).1 = r
      · obtain ⟨k, hk, rfl⟩ := h
        rw [qat k hk] at hm
        cases hm
        refine ⟨by have := low_le L room K k (by omega); omega, (one_ok O hr2).mpr ?_⟩
        show leO (q (traj L room (k + 1)).1) _
        by_cases hk1 : k + 1 < K
        · rw [qat (k + 1) hk1]
          show (traj L room k).2 + (wayA L (traj L room k).1).2.2 - lowW L room K ≤ (traj L room k).2 - lowW L room K + (wayA L (traj L room k).1).2.2
          omega
        · have hkK : k + 1 = K := by omega
          rw [hkK, ← he, qat j hj]
          have e3 : (traj L room K).2 = (traj L room k).2 + (wayA L (traj L room k).1).2.2 := by rw [← hkK]; rfl
          show (traj L room j).2 - lowW L room K ≤ (traj L room k).2 - lowW L room K + (wayA L (traj L room k).1).2.2
          omega
      · have : q r = none := dif_neg h
        rw [this] at hm
        cases hm
    have h0 : q room = some (0 - lowW L room K) := qat 0 (by omega)
    have h1 := hp.least q hq room hr
    rw [h0] at h1
    obtain ⟨m, hm, hle⟩ := leO_some h1
    rw [hm]
    obtain ⟨k, k1, k2⟩ := low_at L room K
    obtain ⟨v, v1, v2⟩ := traj_le O hr hp.pre hm k
    have v0 := (hp.pre _ (traj_lt O hr k) v v1).1
    have : m = -(lowW L room K) := by omega
    rw [this]
theorem nodup_len : ∀ (n : Nat) (l : List Nat), l.Nodup → (∀ x ∈ l, x < n) → l.length ≤ n
  | 0, l, _, h => by
    cases l with
    | nil => exact Nat.le_refl _
    | cons a t => exact absurd (h a List.mem_cons_self) (Nat.not_lt_zero _)
  | n + 1, l, hn, h => by
    by_cases hm : n ∈ l
    · have h1 := List.length_erase_of_mem hm
      have h2 := nodup_len n (l.erase n) (hn.erase n) fun x hx => by
        have h3 := (List.Nodup.mem_erase_iff hn).mp hx
        have := h x h3.2
        have := h3.1
        omega
      have := List.length_pos_of_mem hm
      omega
    · have := nodup_len n l hn fun x hx => by
        have := h x hx
        have : x ≠ n := fun z => hm (by rw [← z]; exact hx)
        omega
      omega
end
end K

set_option Elab.async false
set_option linter.all false
set_option maxRecDepth 100000
set_option maxHeartbeats 400000
namespace K
open PySem DL PyProof.Rows
section
variable {n : Nat} {L : List W3} {room : Nat}
def seenD (L : List W3) (room k : Nat) : List (L2.Key × PyData) := (List.range k).map fun i => ((Sum.inl (((traj L room i).1 : Nat) : Int) : L2.Key), PyData.int (traj L room i).2)
theorem seen_none {k r : Nat} (h : ∀ i, i < k → (traj L room i).1 ≠ r) : valK (seenD L room k) (.inl (r : Int)) = none := by
  unfold valK
  have : (seenD L room k).find? (fun kv => decide (kv.1 = (Sum.inl (r : Int) : L2.Key))) = none := by
    rw [List.find?_eq_none]
    intro x hx
    obtain ⟨i, hi, rfl⟩ := List.mem_map.mp hx
    have hi := List.mem_range.mp hi
    have h1 := h i hi
    have h2 : ¬ ((((traj L room i).1 : Nat) : Int) = (r : Int)) := by omega
    simp [h2]
  rw [this]; rfl
theorem seen_some {k r j : Nat} (hj : j < k) (he : (traj L room j).1 = r) (hd : ∀ a b, a < b → b < k → (traj L room a).1 ≠ (traj L room b).1) : valK (seenD L room k) (.inl (r : Int)) = some (.int (traj L room j).2) := by
  have hs : ∃ x, (seenD L room k).find? (fun kv => decide (kv.1 = (Sum.inl (r : Int) : L2.Key))) = some x := by
    cases e : (seenD L room k).find? (fun kv => decide (kv.1 = (Sum.inl (r : Int) : L2.Key))) with
    | some x => exact ⟨x, rfl⟩
    | none =>
      rw [List.find?_eq_none] at e
      have := e _ (List.mem_map.mpr ⟨j, List.mem_range.mpr hj, rfl⟩)
      rw [he] at this
      simp at this
  obtain ⟨x, hx⟩ := hs
  have h1 := List.find?_some hx
  have h2 := List.mem_of_find?_eq_some hx
  obtain ⟨i, hi, rfl⟩ := List.mem_map.mp h2
  have hi := List.mem_range.mp hi
  have h3 := of_decide_eq_true h1
  have h4 : (((traj L room i).1 : Nat) : Int) = (r : Int) := Sum.inl.inj h3
  have hij : i = j := by
    rcases Nat.lt_trichotomy i j with z | z | z
    · exact absurd (by rw [he]; omega) (hd i j z hj)
    · exact z
    · exact absurd (by rw [he]; omega) (hd j i z hi)
  unfold valK
  rw [hx, hij]
  rfl
theorem seen_snoc (k : Nat) (h : ∀ i, i < k → (traj L room i).1 ≠ (traj L room k).1) : putD (seenD L room k) (.inl (((traj L room k).1 : Nat) : Int)) (.int (traj L room k).2) = seenD L room (k + 1) := by
  have h1 : ((seenD L room k).any fun kv => decide (kv.1 = (Sum.inl (((traj L room k).1 : Nat) : Int) : L2.Key))) = false := by
    rw [List.any_eq_false]
    intro x hx
    obtain ⟨i, hi, rfl⟩ := List.mem_map.mp hx
    have hi := List.mem_range.mp hi
    have h1 := h i hi
    have h2 : ¬ ((((traj L room i).1 : Nat) : Int) = (((traj L room k).1 : Nat) : Int)) := by omega
    simp [h2]
  unfold putD
  rw [h1, if_neg Bool.false_ne_true]
  unfold seenD
  rw [List.range_succ, List.map_append]
  rfl
abbrev A8 (L : List W3) (room k : Nat) (x6 : Sl) : Nv := [.sh (.list (L.map encW3)), .sh (.int (room : Int)), .sh (.int ((traj L room k).1 : Int)), .sh (.int (traj L room k).2), .sh (.int (lowW L room k)), .ow (.dk (seenD L room k)), x6, .no]
theorem way_at (O : Ow1 n L) {r : Nat} (hr : r < n) : ∃ t, (L.filter fun w => decide (w.1 = r)) = wayA L r :: t := by
  cases e : L.filter fun w => decide (w.1 = r) with
  | nil => exact absurd (decide_eq_true (O.src r hr)) ((List.filter_eq_nil_iff.mp e) _ (O.mem hr))
  | cons w t =>
    have hm : w ∈ L.filter fun w => decide (w.1 = r) := by rw [e]; exact List.mem_cons_self
    rw [List.mem_filter] at hm
    obtain ⟨h1, h2⟩ := hm
    obtain ⟨_, h3⟩ := O.only h1
    rw [of_decide_eq_true h2] at h3
    exact ⟨t, by rw [← h3]⟩
theorem alone_ok (O : Ow1 n L) (hn : n ≤ 100) (hr : room < n) {o : Nat → Int} {p : Nat → Option Int} (hp : IsE o (fun w => w ∈ L) n p) (g : DL.G) : m_law_alone [.list (L.map encW3), .int (room : Int)] g = .ok (encV (p room)) g := by
  have hL : L.length ≤ 1000000 := by rw [O.len]; omega
  obtain ⟨ρ', g', h1, hg', K, j, x6, hj, he, hd, rfl⟩ := whileS_run (c := keyT true 5 (varD 2)) (b := seqS (keyS 5 (varD 2) (varD 3))
    (seqS (setS 6 (opD ixD (shareO (lcO (itemsD (varD 0)) [7] (nameT 7) (boolD (opD eqD (opD ixD (varD 7) (constD (.int 0))) (varD 2))) (varD 7))) (constD (.int 0))))
    (seqS (setS 3 (opD addD (varD 3) (opD ixD (varD 6) (constD (.int 2)))))
    (seqS (setS 4 (opD min2D (varD 4) (varD 3)))
    (setS 2 (opD ixD (varD 6) (constD (.int 1))))))))
    (fun m ρ g' => g' = g ∧ ∃ k x6, k + m = n ∧ (∀ a b, a < b → b < k → (traj L room a).1 ≠ (traj L room b).1) ∧ ρ = A8 L room k x6)
    (fun ρ g' => g' = g ∧ ∃ K j x6, j < K ∧ (traj L room j).1 = (traj L room K).1 ∧ (∀ a b, a < b → b < K → (traj L room a).1 ≠ (traj L room b).1) ∧ ρ = A8 L room K x6) (by
      rintro m ρ g' ⟨e', k, x6, hk, hd, rfl⟩
      by_cases hx : ∃ j, j < k ∧ (traj L room j).1 = (traj L room k).1
      · obtain ⟨j, hj, he⟩ := hx
        have hv := seen_some hj he hd
        refine .inl ⟨?_, e', k, j, x6, hj, he, hd, rfl⟩
        unfold A8
        generalize seenD L room k = kv at hv ⊢
        simp [keyT, keyD, hv]
      · have hno : ∀ i, i < k → (traj L room i).1 ≠ (traj L room k).1 := fun i hi z => hx ⟨i, hi, z⟩
        have hv := seen_none hno
        have hs := seen_snoc k hno
        have hd2 : ∀ a b, a < b → b < k + 1 → (traj L room a).1 ≠ (traj L room b).1 := fun a b hab hb => by
          by_cases e : b = k
          · subst e; exact hno a hab
          · exact hd a b hab (by omega)
        have hk1 : k + 1 ≤ n := by
          have := nodup_len n ((List.range (k + 1)).map fun i => (traj L room i).1) (by
            rw [List.nodup_iff_pairwise_ne, List.pairwise_map, List.pairwise_iff_getElem]
            intro a b ha hb hab
            rw [List.length_range] at ha hb
            rw [List.getElem_range, List.getElem_range]
            exact hd2 a b hab hb) (fun x hx => by
              obtain ⟨i, _, rfl⟩ := List.mem_map.mp hx
              exact traj_lt O hr i)
          rwa [List.length_map, List.length_range] at this
        have hkl := traj_lt O hr k
        obtain ⟨t, ht⟩ := way_at O hkl
        have hsl : (seenD L room k).length < 1000000 := by unfold seenD; rw [List.length_map, List.length_range]; omega
        refine .inr ⟨g', A8 L room (k + 1) (.sh (encW3 (wayA L (traj L room k).1))), g', m - 1, ?_, ?_, ⟨e', k + 1, _, by omega, hd2, rfl⟩, by omega⟩
        · unfold A8
          generalize seenD L room k = kv at hv ⊢
          simp [keyT, keyD, hv]
        · have c := compD_pure (t := nameT 7) (cond := boolD (opD eqD (opD ixD (varD 7) (constD (.int 0))) (varD 2))) (elt := varD 7) encW3 (fun w => decide (w.1 = (traj L room k).1)) encW3 L [.sh (.list (L.map encW3)), .sh (.int (room : Int)), .sh (.int ((traj L room k).1 : Int)), .sh (.int (traj L room k).2), .sh (.int (lowW L room k)), .ow (.dk (seenD L room (k + 1))), x6, .no] g' fun w _ => ⟨[.sh (.list (L.map encW3)), .sh (.int (room : Int)), .sh (.int ((traj L room k).1 : Int)), .sh (.int (traj L room k).2), .sh (.int (lowW L room k)), .ow (.dk (seenD L room (k + 1))), x6, .sh (encW3 w)], by simp, by
            generalize (traj L room k).1 = r
            by_cases hwr : w.1 = r
            · subst hwr; simp [encW3, eqD]
            · have : ¬ ((w.1 : Int) = (r : Int)) := by omega
              simp [encW3, eqD, hwr]; exact this, fun _ => by simp⟩
          rw [ht, List.map_cons] at c
          have e1 : (traj L room (k + 1)).1 = (wayA L (traj L room k).1).2.1 := rfl
          have e2 : (traj L room (k + 1)).2 = (traj L room k).2 + (wayA L (traj L room k).1).2.2 := rfl
          have e3 : lowW L room (k + 1) = if (traj L room k).2 + (wayA L (traj L room k).1).2.2 < lowW L room k then (traj L room k).2 + (wayA L (traj L room k).1).2.2 else lowW L room k := rfl
          unfold A8
          rw [e1, e2, e3, ← hs]
          rw [← hs] at c
          have s1 : keyS 5 (varD 2) (varD 3) [.sh (.list (L.map encW3)), .sh (.int (room : Int)), .sh (.int ((traj L room k).1 : Int)), .sh (.int (traj L room k).2), .sh (.int (lowW L room k)), .ow (.dk (seenD L room k)), x6, .no] g' = .nx [.sh (.list (L.map encW3)), .sh (.int (room : Int)), .sh (.int ((traj L room k).1 : Int)), .sh (.int (traj L room k).2), .sh (.int (lowW L room k)), .ow (.dk (putD (seenD L room k) (.inl (((traj L room k).1 : Nat) : Int)) (.int (traj L room k).2))), x6, .no] g' := by
            generalize seenD L room k = kv at hsl ⊢
            simp [keyS, keyD, hsl, big]
          refine (seq_eq s1).trans ?_
          generalize putD (seenD L room k) (.inl (((traj L room k).1 : Nat) : Int)) (.int (traj L room k).2) = kv at c ⊢
          generalize wayA L (traj L room k).1 = w at c ⊢
          generalize lowW L room k = lo at c ⊢
          generalize (traj L room k).2 = W at c ⊢
          generalize (traj L room k).1 = hr at c ⊢
          generalize t.map encW3 = T at c
          have hLl : (L.map encW3).length = L.length := List.length_map _
          generalize L.map encW3 = LD at c hLl ⊢
          have hb : LD.length ≤ 1000000 := by omega
          refine (seq_eq (ρ1 := [.sh (.list LD), .sh (.int (room : Int)), .sh (.int (hr : Int)), .sh (.int W), .sh (.int lo), .ow (.dk kv), .sh (encW3 w), .no]) (g1 := g') (by simp [hb, big, c])).trans ?_
          simp [encW3]) n (A8 L room 0 .no) g ⟨rfl, 0, _, by omega, fun a b _ hb => absurd hb (Nat.not_lt_zero _), rfl⟩
  rw [hg'] at h1
  have hval := alone_val O hr hp hj he hd
  have hv := seen_some hj he hd
  have hbody : b_law_alone [.sh (.list (L.map encW3)), .sh (.int (room : Int)), .no, .no, .no, .no, .no, .no] g = .rt (encV (p room)) g := by
    unfold b_law_alone
    refine (seq_eq (a := setS 2 (varD 1)) (ρ1 := [.sh (.list (L.map encW3)), .sh (.int (room : Int)), .sh (.int (room : Int)), .no, .no, .no, .no, .no]) (g1 := g) rfl).trans ?_
    refine (seq_eq (a := setS 3 (constD (.int 0))) (ρ1 := [.sh (.list (L.map encW3)), .sh (.int (room : Int)), .sh (.int (room : Int)), .sh (.int 0), .no, .no, .no, .no]) (g1 := g) rfl).trans ?_
    refine (seq_eq (a := setS 4 (constD (.int 0))) (ρ1 := [.sh (.list (L.map encW3)), .sh (.int (room : Int)), .sh (.int (room : Int)), .sh (.int 0), .sh (.int 0), .no, .no, .no]) (g1 := g) rfl).trans ?_
    refine (seq_eq (a := setOS 5 dictO) (ρ1 := A8 L room 0 .no) (g1 := g) rfl).trans ?_
    refine (seq_eq h1).trans ?_
    rw [hval]
    unfold A8
    generalize seenD L room K = kv at hv ⊢
    generalize lowW L room K = lo
    generalize (traj L room j).2 = Wj at hv ⊢
    generalize (traj L room K).2 = W at hv ⊢
    generalize (traj L room K).1 = hr at hv ⊢
    by_cases hlt : W < Wj
    · rw [if_pos hlt]
      simp [keyE, keyD, hv, hlt, encV]
    · rw [if_neg hlt]
      simp [keyE, keyD, hv, hlt, encV]
  unfold m_law_alone fnD
  show (match b_law_alone [.sh (.list (L.map encW3)), .sh (.int (room : Int)), .no, .no, .no, .no, .no, .no] g with | .nx _ g1 => R.ok PyData.none g1 | .rt d g1 => .ok d g1 | .ex k _ g1 => .ex k g1 | _ => .bad) = _
  rw [hbody]
end
end K

set_option Elab.async false
set_option linter.all false
set_option maxRecDepth 100000
set_option maxHeartbeats 400000
namespace K
open PySem DL PyProof.Rows
section
variable {os : List Int} {ws : List W3} {pl : Int} {p q : List (Option Nat)}
theorem oat (r : Nat) (hr : r < os.length) : oF os r = os[r] := by show os[r]?.getD 0 = _; rw [List.getElem?_eq_getElem hr]; rfl
/-- a plan out of a choice of ways -/
theorem plan_of (V : Va os ws) (pl : Int) {c : Nat → W3} (hc : ∀ r, r < os.length → c r ∈ ws ∧ (c r).1 = r) : ∃ p ∈ plansP os ws pl os.length, ∀ w : W3, w ∈ keptL ws p ↔ w ∈ ws ∧ (oF os w.1 = pl → w = c w.1) := by
  have place : ∀ r, ∃ k : Nat, r < os.length → ws[k]? = some (c r) := fun r => by
    by_cases hr : r < os.length
    · obtain ⟨k, hk, e⟩ := List.getElem_of_mem (hc r hr).1
      exact ⟨k, fun _ => by rw [List.getElem?_eq_getElem hk, e]⟩
    · exact ⟨0, fun z => absurd z hr⟩
  let kk : Nat → Nat := fun r => (place r).choose
  have hkk : ∀ r, r < os.length → ws[kk r]? = some (c r) := fun r hr => (place r).choose_spec hr
  let p : List (Option Nat) := (List.range os.length).map fun r => if oF os r = pl then some (kk r) else none
  have pat : ∀ r, r < os.length → pK p r = if oF os r = pl then some (kk r) else none := fun r hr => by
    show ((List.range os.length).map _)[r]?.getD none = _
    rw [List.getElem?_map, List.getElem?_range hr]; rfl
  have hp : p ∈ plansP os ws pl os.length := by
    refine plan_mk os.length p (by simp [p]) fun r hr => ?_
    show pK p r ∈ _
    rw [pat r hr]
    unfold optsP
    by_cases hz : os[r]?.getD 0 = pl
    · rw [if_pos hz, if_pos hz]
      exact List.mem_map.mpr ⟨kk r, chs_mem.mpr ⟨c r, hkk r hr, (hc r hr).2⟩, rfl⟩
    · rw [if_neg hz, if_neg hz]
      exact List.mem_singleton.mpr rfl
  refine ⟨p, hp, fun w => ⟨fun z => ?_, fun z => ?_⟩⟩
  · obtain ⟨k, h1, h2⟩ := kept_mem.mp z
    have hm := List.mem_of_getElem? h1
    have hr := (V.w w hm).1
    refine ⟨hm, fun ho => ?_⟩
    rw [pat _ hr, if_pos ho] at h2
    rcases h2 with h2 | h2
    · cases h2
    · cases h2
      have := hkk w.1 hr
      rw [h1] at this
      exact Option.some.inj this
  · have hr := (V.w w z.1).1
    by_cases ho : oF os w.1 = pl
    · have hwc := z.2 ho
      refine kept_mem.mpr ⟨kk w.1, by rw [hkk _ hr, ← hwc], .inr ?_⟩
      rw [pat _ hr, if_pos ho]
    · obtain ⟨k, hk, e⟩ := List.getElem_of_mem z.1
      refine kept_mem.mpr ⟨k, by rw [List.getElem?_eq_getElem hk, e], .inl ?_⟩
      rw [pat _ hr, if_neg ho]
theorem keep_other (V : Va os ws) (h : p ∈ plansP os ws pl os.length) {w : W3} (hw : w ∈ ws) (ho : oF os w.1 ≠ pl) : w ∈ keptL ws p := by
  have hr := (V.w w hw).1
  obtain ⟨k, hk, e⟩ := List.getElem_of_mem hw
  refine kept_mem.mpr ⟨k, by rw [List.getElem?_eq_getElem hk, e], .inl ?_⟩
  cases e2 : pK p w.1 with
  | none => rfl
  | some j => exact absurd (by rw [oat _ hr]; exact (pk_some h hr e2).1) ho
/-- the ways of both plans -/
def bothI (os : List Int) (p q : List (Option Nat)) (r : Nat) : Nat := if oF os r = 0 then (pK p r).getD 0 else (pK q r).getD 0
def bothL (os : List Int) (ws : List W3) (p q : List (Option Nat)) : List W3 := (List.range os.length).map fun r => ws[bothI os p q r]?.getD (0, 0, 0)
theorem both_at (V : Va os ws) (hp : p ∈ plansP os ws 0 os.length) (hq : q ∈ plansP os ws 1 os.length) {r : Nat} (hr : r < os.length) : ∃ w, ws[bothI os p q r]? = some w ∧ w.1 = r ∧ w ∈ keptL ws p ∧ w ∈ keptL ws q := by
  have ho := V.o os[r] (List.getElem_mem hr)
  unfold bothI
  rw [oat r hr]
  rcases ho with h0 | h1
  · rw [if_pos h0]
    cases e : pK p r with
    | none => exact absurd h0 (pk_none hp hr e)
    | some k =>
      obtain ⟨w, w1, w2⟩ := chs_mem.mp (pk_some hp hr e).2
      refine ⟨w, w1, w2, kept_mem.mpr ⟨k, w1, .inr (by rw [w2]; exact e)⟩, keep_other V hq (List.mem_of_getElem? w1) ?_⟩
      rw [w2, oat r hr, h0]; decide
  · rw [if_neg (by rw [h1]; decide)]
    cases e : pK q r with
    | none => exact absurd h1 (pk_none hq hr e)
    | some k =>
      obtain ⟨w, w1, w2⟩ := chs_mem.mp (pk_some hq hr e).2
      refine ⟨w, w1, w2, keep_other V hp (List.mem_of_getElem? w1) ?_, kept_mem.mpr ⟨k, w1, .inr (by rw [w2]; exact e)⟩⟩
      rw [w2, oat r hr, h1]; decide
theorem both_wayA (V : Va os ws) (hp : p ∈ plansP os ws 0 os.length) (hq : q ∈ plansP os ws 1 os.length) {r : Nat} (hr : r < os.length) : ∃ w, wayA (bothL os ws p q) r = w ∧ ws[bothI os p q r]? = some w ∧ w.1 = r ∧ w ∈ keptL ws p ∧ w ∈ keptL ws q := by
  obtain ⟨w, h1, h2⟩ := both_at V hp hq hr
  refine ⟨w, ?_, h1, h2⟩
  show ((List.range os.length).map fun r => ws[bothI os p q r]?.getD (0, 0, 0))[r]?.getD (0, 0, 0) = w
  rw [List.getElem?_map, List.getElem?_range hr]
  show ws[bothI os p q r]?.getD (0, 0, 0) = w
  rw [h1]; rfl
theorem both_ow (V : Va os ws) (hp : p ∈ plansP os ws 0 os.length) (hq : q ∈ plansP os ws 1 os.length) : Ow1 os.length (bothL os ws p q) := by
  refine ⟨by simp [bothL], fun r hr => ?_, fun w hw => ?_⟩
  · obtain ⟨w, h1, _, h2, _⟩ := both_wayA V hp hq hr
    show (wayA (bothL os ws p q) r).1 = r
    rw [h1]; exact h2
  · obtain ⟨r, hr, rfl⟩ := List.mem_map.mp hw
    have hr := List.mem_range.mp hr
    obtain ⟨w, h1, h2, h3, _⟩ := both_at V hp hq hr
    rw [h1]
    exact (V.w w (kept_sub h3)).2.1
theorem both_mem (V : Va os ws) (hp : p ∈ plansP os ws 0 os.length) (hq : q ∈ plansP os ws 1 os.length) (w : W3) : w ∈ bothL os ws p q ↔ w ∈ keptL ws p ∧ w ∈ keptL ws q := by
  constructor
  · intro h
    obtain ⟨r, hr, rfl⟩ := List.mem_map.mp h
    have hr := List.mem_range.mp hr
    obtain ⟨w, h1, _, h3⟩ := both_at V hp hq hr
    rw [h1]
    exact h3
  · rintro ⟨k1, k2⟩
    have hr := (V.w w (kept_sub k1)).1
    obtain ⟨w', h1, h2, h3, _⟩ := both_at V hp hq hr
    refine List.mem_map.mpr ⟨w.1, List.mem_range.mpr hr, ?_⟩
    rw [h1]
    show w' = w
    have ho := V.o os[w.1] (List.getElem_mem hr)
    unfold bothI at h1
    rw [oat _ hr] at h1
    rcases ho with h0 | ho1
    · rw [if_pos h0] at h1
      obtain ⟨k, e1, e2⟩ := kept_mem.mp k1
      rcases e2 with e2 | e2
      · exact absurd h0 (pk_none hp hr e2)
      · rw [e2] at h1
        have h1 : ws[k]? = some w' := h1
        rw [e1] at h1
        exact (Option.some.inj h1).symm
    · rw [if_neg (by rw [ho1]; decide)] at h1
      obtain ⟨k, e1, e2⟩ := kept_mem.mp k2
      rcases e2 with e2 | e2
      · exact absurd ho1 (pk_none hq hr e2)
      · rw [e2] at h1
        have h1 : ws[k]? = some w' := h1
        rw [e1] at h1
        exact (Option.some.inj h1).symm
/-- the prices of both plans -/
structure Tab (os : List Int) (ws : List W3) (P : Nat → Option Int) (F0 F1 : List (Option Nat) → Nat → Option Int) (A : List (Option Nat) → List (Option Nat) → Nat → Option Int) : Prop where
  a : ∀ p ∈ plansP os ws 0 os.length, ∀ q ∈ plansP os ws 1 os.length, IsE (oF os) (fun w => w ∈ bothL os ws p q) os.length (A p q)
  r1 : ∀ p ∈ plansP os ws 0 os.length, ∀ q ∈ plansP os ws 1 os.length, ∀ r, r < os.length → leO (A p q r) (F0 p r)
  r2 : ∀ p ∈ plansP os ws 0 os.length, ∃ q ∈ plansP os ws 1 os.length, ∀ r, r < os.length → A p q r = F0 p r
  c1 : ∀ p ∈ plansP os ws 0 os.length, ∀ q ∈ plansP os ws 1 os.length, ∀ r, r < os.length → leO (F1 q r) (A p q r)
  c2 : ∀ q ∈ plansP os ws 1 os.length, ∃ p ∈ plansP os ws 0 os.length, ∀ r, r < os.length → A p q r = F1 q r
  p1 : ∀ p ∈ plansP os ws 0 os.length, ∀ r, r < os.length → leO (P r) (F0 p r)
  p2 : ∃ p ∈ plansP os ws 0 os.length, ∀ r, r < os.length → F0 p r = P r
  q1 : ∀ q ∈ plansP os ws 1 os.length, ∀ r, r < os.length → leO (F1 q r) (P r)
  q2 : ∃ q ∈ plansP os ws 1 os.length, ∀ r, r < os.length → F1 q r = P r
theorem tab_ex (V : Va os ws) {P : Nat → Option Int} (hP : IsE (oF os) (fun w => w ∈ ws) os.length P) : ∃ F0 F1 A, Tab os ws P F0 F1 A := by
  have hw : ∀ w : W3, w ∈ ws → w.2.1 < os.length := fun w h => (V.w w h).2.1
  have exF : ∀ p : List (Option Nat), ∃ f, IsE (oF os) (fun w => w ∈ keptL ws p) os.length f := fun p => IsE.ex _ _ _ fun w h => hw w (kept_sub h)
  have exA : ∀ p q : List (Option Nat), ∃ f, (p ∈ plansP os ws 0 os.length → q ∈ plansP os ws 1 os.length → IsE (oF os) (fun w => w ∈ bothL os ws p q) os.length f) := fun p q => by
    by_cases h : p ∈ plansP os ws 0 os.length ∧ q ∈ plansP os ws 1 os.length
    · obtain ⟨f, hf⟩ := IsE.ex (oF os) (fun w => w ∈ bothL os ws p q) os.length fun w z => hw w (kept_sub ((both_mem V h.1 h.2 w).mp z).1)
      exact ⟨f, fun _ _ => hf⟩
    · exact ⟨fun _ => none, fun h1 h2 => absurd ⟨h1, h2⟩ h⟩
  let F : List (Option Nat) → Nat → Option Int := fun p => (exF p).choose
  have hF : ∀ p, IsE (oF os) (fun w => w ∈ keptL ws p) os.length (F p) := fun p => (exF p).choose_spec
  let A : List (Option Nat) → List (Option Nat) → Nat → Option Int := fun p q => (exA p q).choose
  have hA : ∀ p ∈ plansP os ws 0 os.length, ∀ q ∈ plansP os ws 1 os.length, IsE (oF os) (fun w => w ∈ bothL os ws p q) os.length (A p q) := fun p hp q hq => (exA p q).choose_spec hp hq
  have o01 : ∀ r, r < os.length → oF os r = 0 ∨ oF os r = 1 := fun r hr => by rw [oat r hr]; exact V.o _ (List.getElem_mem hr)
  have neK : ∀ {pl : Int} {p}, p ∈ plansP os ws pl os.length → ∀ r, r < os.length → ∃ w : W3, w ∈ keptL ws p ∧ w.1 = r := fun hp r hr => by
    obtain ⟨w, h1, h2⟩ := (kept_va V hp).all r hr
    exact ⟨w, h1, h2⟩
  refine ⟨F, F, A, hA, fun p hp q hq => ?_, fun p hp => ?_, fun p hp q hq => ?_, fun q hq => ?_, fun p hp => ?_, ?_, fun q hq => ?_, ?_⟩
  · -- less of 1's ways
    exact IsE.fewer1 (fun w z => ((both_mem V hp hq w).mp z).1) (fun w z1 z2 => (both_mem V hp hq w).mpr ⟨z1, keep_other V hq (kept_sub z1) (by rw [z2]; decide)⟩) (hF p) (hA p hp q hq)
  · obtain ⟨c, hc, hE⟩ := spoil1 (fun w h => hw w (kept_sub h)) ws (fun w h => kept_sub h) (neK hp) (hF p)
    obtain ⟨q, hq, hqm⟩ := plan_of V 1 (c := c) fun r hr => ⟨kept_sub (hc r hr).1, (hc r hr).2⟩
    refine ⟨q, hq, ?_⟩
    have e : (fun w : W3 => w ∈ bothL os ws p q) = fun w => w ∈ keptL ws p ∧ (w.1 < os.length → oF os w.1 ≠ 0 → w = c w.1) := by
      funext w
      rw [both_mem V hp hq w, hqm w]
      refine propext ⟨fun z => ⟨z.1, fun h1 h2 => z.2.2 ?_⟩, fun z => ⟨z.1, kept_sub z.1, fun h => z.2 (V.w w (kept_sub z.1)).1 (by rw [h]; decide)⟩⟩
      rcases o01 w.1 h1 with h | h
      · exact absurd h h2
      · exact h
    have hA' := hA p hp q hq
    rw [e] at hA'
    exact hA'.one hE
  · exact IsE.fewer0 (fun w z => ((both_mem V hp hq w).mp z).2) (fun w z1 z2 => (both_mem V hp hq w).mpr ⟨keep_other V hp (kept_sub z1) z2, z1⟩) (hF q) (hA p hp q hq)
  · obtain ⟨c, hc, hE⟩ := keep0 (fun w h => hw w (kept_sub h)) (neK hq) (hF q)
    obtain ⟨p, hp, hpm⟩ := plan_of V 0 (c := c) fun r hr => ⟨kept_sub (hc r hr).1, (hc r hr).2⟩
    refine ⟨p, hp, ?_⟩
    have e : (fun w : W3 => w ∈ bothL os ws p q) = fun w => w ∈ keptL ws q ∧ (oF os w.1 = 0 → w = c w.1) := by
      funext w
      rw [both_mem V hp hq w, hpm w]
      exact propext ⟨fun z => ⟨z.2, z.1.2⟩, fun z => ⟨⟨kept_sub z.1, z.2⟩, z.1⟩⟩
    have hA' := hA p hp q hq
    rw [e] at hA'
    exact hA'.one hE
  · exact IsE.fewer0 (fun w z => kept_sub z) (fun w z1 z2 => keep_other V hp z1 z2) hP (hF p)
  · obtain ⟨c, hc, hE⟩ := keep0 hw (fun r hr => by obtain ⟨w, h1, h2⟩ := V.all r hr; exact ⟨w, h1, h2⟩) hP
    obtain ⟨p, hp, hpm⟩ := plan_of V 0 hc
    refine ⟨p, hp, ?_⟩
    have e : (fun w : W3 => w ∈ keptL ws p) = fun w => w ∈ ws ∧ (oF os w.1 = 0 → w = c w.1) := by
      funext w; exact propext (hpm w)
    have hF' := hF p
    rw [e] at hF'
    exact hF'.one hE
  · exact IsE.fewer1 (fun w z => kept_sub z) (fun w z1 z2 => keep_other V hq z1 (by rw [z2]; decide)) hP (hF q)
  · obtain ⟨c, hc, hE⟩ := spoil1 hw ws (fun _ h => h) (fun r hr => by obtain ⟨w, h1, h2⟩ := V.all r hr; exact ⟨w, h1, h2⟩) hP
    obtain ⟨q, hq, hqm⟩ := plan_of V 1 hc
    refine ⟨q, hq, ?_⟩
    have e : (fun w : W3 => w ∈ keptL ws q) = fun w => w ∈ ws ∧ (w.1 < os.length → oF os w.1 ≠ 0 → w = c w.1) := by
      funext w
      rw [hqm w]
      refine propext ⟨fun z => ⟨z.1, fun h1 h2 => z.2 ?_⟩, fun z => ⟨z.1, fun h => z.2 (V.w w z.1).1 (by rw [h]; decide)⟩⟩
      rcases o01 w.1 h1 with h | h
      · exact absurd h h2
      · exact h
    have hF' := hF q
    rw [e] at hF'
    exact hF'.one hE
end
end K

set_option Elab.async false
set_option linter.all false
set_option maxRecDepth 100000
set_option maxHeartbeats 400000
namespace K
open PySem DL PyProof.Rows
section
variable {os : List Int} {ws : List W3} {p q : List (Option Nat)}
theorem lawKeptToo_ok (V : Va os ws) (hp : p ∈ plansP os ws 0 os.length) (hq : q ∈ plansP os ws 1 os.length) (g : DL.G) : m_law_kept_too [owD os, wyD ws, plD p, plD q] g = .ok (.list ((bothL os ws p q).map encW3)) g := by
  have n2 := V.n2
  have hb : ((os.length : Nat) : Int) ≤ 1000000 ∧ -1000000 ≤ ((os.length : Nat) : Int) := by omega
  have hb2 : os.length ≤ 1000000 := by omega
  have hpl := plan_len os.length p hp
  have hql := plan_len os.length q hq
  have c1 := compD_pure (t := nameT 4) (cond := yesT) (elt := opD ixD (varD 1) (ifD (boolD (opD eqD (opD ixD (varD 0) (varD 4)) (constD (.int 0)))) (opD ixD (varD 2) (varD 4)) (opD ixD (varD 3) (varD 4)))) (fun k : Nat => PyData.int (0 + (k : Int))) (fun _ => true) (fun r => encW3 (ws[bothI os p q r]?.getD (0, 0, 0))) (List.range os.length)
    [.sh (owD os), .sh (wyD ws), .sh (plD p), .sh (plD q), .no] g fun r hr => ⟨[.sh (owD os), .sh (wyD ws), .sh (plD p), .sh (plD q), .sh (.int (r : Int))], by simp, rfl, fun _ => by
      have hr := List.mem_range.mp hr
      obtain ⟨w, w1, _⟩ := both_at V hp hq hr
      have e0 := ix_map PyData.int os r os[r] (List.getElem?_eq_getElem hr)
      have e1 := ix_plan (p := p) (r := r) (by omega)
      have e2 := ix_plan (p := q) (r := r) (by omega)
      have e3 := ix_map encW3 ws _ w w1
      rw [w1]
      show _ = DL.R.ok (encW3 w) g
      unfold bothI at w1 e3
      rw [oat r hr] at w1 e3
      generalize encW3 w = W at e3 ⊢
      by_cases h0 : os[r] = 0
      · rw [if_pos h0] at e3
        cases hk : pK p r with
        | none => exact absurd h0 (pk_none hp hr hk)
        | some k =>
          rw [hk] at e1 e3
          have e3 : ixD (wyD ws) (.int (k : Int)) = some W := e3
          have e1 : ixD (plD p) (.int (r : Int)) = some (.int (k : Int)) := e1
          generalize plD p = D1 at e1 ⊢
          generalize plD q = D2
          generalize wyD ws = D3 at e3 ⊢
          simp [eqD, e0, h0, e1, e3]
      · rw [if_neg h0] at e3
        have ho := V.o os[r] (List.getElem_mem hr)
        have h1 : os[r] = 1 := by rcases ho with h | h; exact absurd h h0; exact h
        cases hk : pK q r with
        | none => exact absurd h1 (pk_none hq hr hk)
        | some k =>
          rw [hk] at e2 e3
          have e3 : ixD (wyD ws) (.int (k : Int)) = some W := e3
          have e2 : ixD (plD q) (.int (r : Int)) = some (.int (k : Int)) := e2
          generalize plD p = D1
          generalize plD q = D2 at e2 ⊢
          generalize wyD ws = D3 at e3 ⊢
          simp [eqD, e0, h1, e2, e3]⟩
  rw [List.filter_eq_self.mpr fun _ _ => rfl, ← upFrom_map] at c1
  have e9 : (List.range os.length).map (fun r => encW3 (ws[bothI os p q r]?.getD (0, 0, 0))) = (bothL os ws p q).map encW3 := by
    unfold bothL
    rw [List.map_map]
    rfl
  rw [e9] at c1
  generalize (bothL os ws p q).map encW3 = Z at c1 ⊢
  have hbody : b_law_kept_too [.sh (owD os), .sh (wyD ws), .sh (plD p), .sh (plD q), .no] g = .rt (.list Z) g := by
    unfold b_law_kept_too
    generalize (opD ixD (varD 1) (ifD (boolD (opD eqD (opD ixD (varD 0) (varD 4)) (constD (.int 0)))) (opD ixD (varD 2) (varD 4)) (opD ixD (varD 3) (varD 4)))) = E at c1 ⊢
    simp [hb, hb2, big, c1]
  unfold m_law_kept_too fnD
  show (match b_law_kept_too [.sh (owD os), .sh (wyD ws), .sh (plD p), .sh (plD q), .no] g with | .nx _ g1 => R.ok PyData.none g1 | .rt d g1 => .ok d g1 | .ex k _ g1 => .ex k g1 | _ => .bad) = _
  rw [hbody]
end
/-! greater and lesser ones -/
def grO : Option Int → Option Int → Option Int
  | some a, some b => some (if b > a then b else a)
  | _, _ => none
def lsO : Option Int → Option Int → Option Int
  | none, y => y
  | x, none => x
  | some a, some b => some (if b < a then b else a)
theorem greater_ok (x y : Option Int) (g : G) : m_law_greater [encV x, encV y] g = .ok (encV (grO x y)) g := by
  cases x <;> cases y <;> simp [m_law_greater, b_law_greater, encV, grO]
theorem lesser_ok (x y : Option Int) (g : G) : m_law_lesser [encV x, encV y] g = .ok (encV (lsO x y)) g := by
  cases x <;> cases y <;> simp [m_law_lesser, b_law_lesser, encV, lsO]
theorem grO_l : ∀ x y, leO x (grO x y)
  | none, y => by cases y <;> trivial
  | some a, none => trivial
  | some a, some b => by show a ≤ (if b > a then b else a); split <;> omega
theorem grO_r : ∀ x y, leO y (grO x y)
  | none, y => by cases y <;> trivial
  | some a, none => trivial
  | some a, some b => by show b ≤ (if b > a then b else a); split <;> omega
theorem grO_or : ∀ x y, grO x y = x ∨ grO x y = y
  | none, y => by cases y <;> exact .inl rfl
  | some a, none => .inr rfl
  | some a, some b => by
    show some (if b > a then b else a) = some a ∨ some (if b > a then b else a) = some b
    split
    · exact .inr rfl
    · exact .inl rfl
theorem lsO_l : ∀ x y, leO (lsO x y) x
  | none, y => by cases y <;> trivial
  | some a, none => Int.le_refl a
  | some a, some b => by show (if b < a then b else a) ≤ a; split <;> omega
theorem lsO_r : ∀ x y, leO (lsO x y) y
  | none, y => leO_refl y
  | some a, none => trivial
  | some a, some b => by show (if b < a then b else a) ≤ b; split <;> omega
theorem lsO_or : ∀ x y, lsO x y = x ∨ lsO x y = y
  | none, y => .inr rfl
  | some a, none => .inl rfl
  | some a, some b => by
    show some (if b < a then b else a) = some a ∨ some (if b < a then b else a) = some b
    split
    · exact .inr rfl
    · exact .inl rfl
theorem fold_gr (T : Option Int) : ∀ (l : List (Option Int)) (x : Option Int), leO x T → (∀ y ∈ l, leO y T) → (x = T ∨ T ∈ l) → l.foldl grO x = T
  | [], x, _, _, h => by
    rcases h with h | h
    · exact h
    · cases h
  | y :: l, x, hx, hy, h => by
    have hyT := hy y List.mem_cons_self
    have hz : leO (grO x y) T := by rcases grO_or x y with e | e <;> rw [e] <;> assumption
    refine fold_gr T l (grO x y) hz (fun z hz => hy z (List.mem_cons_of_mem _ hz)) ?_
    rcases h with h | h
    · subst h; exact .inl (leO_anti hz (grO_l x y))
    · rcases List.mem_cons.mp h with h | h
      · subst h; exact .inl (leO_anti hz (grO_r x T))
      · exact .inr h
theorem fold_ls (T : Option Int) : ∀ (l : List (Option Int)) (x : Option Int), leO T x → (∀ y ∈ l, leO T y) → (x = T ∨ T ∈ l) → l.foldl lsO x = T
  | [], x, _, _, h => by
    rcases h with h | h
    · exact h
    · cases h
  | y :: l, x, hx, hy, h => by
    have hyT := hy y List.mem_cons_self
    have hz : leO T (lsO x y) := by rcases lsO_or x y with e | e <;> rw [e] <;> assumption
    refine fold_ls T l (lsO x y) hz (fun z hz => hy z (List.mem_cons_of_mem _ hz)) ?_
    rcases h with h | h
    · subst h; exact .inl (leO_anti (lsO_l x y) hz)
    · rcases List.mem_cons.mp h with h | h
      · subst h; exact .inl (leO_anti (lsO_r x T) hz)
      · exact .inr h
section
variable {os : List Int} {ws : List W3} {P : Nat → Option Int} {F0 F1 : List (Option Nat) → Nat → Option Int} {A : List (Option Nat) → List (Option Nat) → Nat → Option Int}
theorem Tab.pos (T : Tab os ws P F0 F1 A) {p q : List (Option Nat)} (hp : p ∈ plansP os ws 0 os.length) (hq : q ∈ plansP os ws 1 os.length) {r : Nat} (hr : r < os.length) : leO (some 0) (A p q r) := by
  cases e : A p q r with
  | none => trivial
  | some m => exact ((T.a p hp q hq).pre r hr m e).1
theorem Tab.row (T : Tab os ws P F0 F1 A) {p : List (Option Nat)} (hp : p ∈ plansP os ws 0 os.length) {r : Nat} (hr : r < os.length) : ((plansP os ws 1 os.length).map fun q => A p q r).foldl grO (some 0) = F0 p r := by
  obtain ⟨q, hq, e⟩ := T.r2 p hp
  refine fold_gr _ _ _ ?_ (fun y hy => ?_) (.inr (List.mem_map.mpr ⟨q, hq, e r hr⟩))
  · rw [← e r hr]; exact T.pos hp hq hr
  · obtain ⟨q', hq', rfl⟩ := List.mem_map.mp hy
    exact T.r1 p hp q' hq' r hr
theorem Tab.col (T : Tab os ws P F0 F1 A) {q : List (Option Nat)} (hq : q ∈ plansP os ws 1 os.length) {r : Nat} (hr : r < os.length) : ((plansP os ws 0 os.length).map fun p => A p q r).foldl lsO none = F1 q r := by
  obtain ⟨p, hp, e⟩ := T.c2 q hq
  refine fold_ls _ _ _ trivial (fun y hy => ?_) (.inr (List.mem_map.mpr ⟨p, hp, e r hr⟩))
  obtain ⟨p', hp', rfl⟩ := List.mem_map.mp hy
  exact T.c1 p' hp' q hq r hr
theorem Tab.sure (T : Tab os ws P F0 F1 A) {r : Nat} (hr : r < os.length) : ((plansP os ws 0 os.length).map fun p => F0 p r).foldl lsO none = P r := by
  obtain ⟨p, hp, e⟩ := T.p2
  refine fold_ls _ _ _ trivial (fun y hy => ?_) (.inr (List.mem_map.mpr ⟨p, hp, e r hr⟩))
  obtain ⟨p', hp', rfl⟩ := List.mem_map.mp hy
  exact T.p1 p' hp' r hr
theorem Tab.asked (T : Tab os ws P F0 F1 A) {r : Nat} (hr : r < os.length) : ((plansP os ws 1 os.length).map fun q => F1 q r).foldl grO (some 0) = P r := by
  obtain ⟨q, hq, e⟩ := T.q2
  refine fold_gr _ _ _ ?_ (fun y hy => ?_) (.inr (List.mem_map.mpr ⟨q, hq, e r hr⟩))
  · obtain ⟨p, hp, e2⟩ := T.c2 q hq
    rw [← e r hr, ← e2 r hr]; exact T.pos hp hq hr
  · obtain ⟨q', hq', rfl⟩ := List.mem_map.mp hy
    exact T.q1 q' hq' r hr
end
end K

set_option Elab.async false
set_option linter.all false
set_option maxRecDepth 100000
set_option maxHeartbeats 400000
namespace K
open PySem DL PyProof.Rows
section
variable {os : List Int} {ws : List W3} {PP : List (Option Int)} {P : Nat → Option Int} {F0 F1 : List (Option Nat) → Nat → Option Int} {A : List (Option Nat) → List (Option Nat) → Nat → Option Int}
abbrev N27 (os : List Int) (ws : List W3) (PP : List (Option Int)) (ro p su as ta row k ot wo on be : Sl) : Nv := [.no, .dr, .sh (.int (os.length : Int)), .sh (encA os ws), .sh (.list (PP.map encV)), .no, .no, .no, .sh (.tuple (os.map PyData.int)), .sh (.tuple (ws.map encW3)), .sh (.list ((plansP os ws 0 os.length).map plD)), .sh (.list ((plansP os ws 1 os.length).map plD)), ro, .no, p, .no, .no, su, as, ta, row, k, .no, ot, wo, on, be]
abbrev rowV (os : List Int) (ws : List W3) (A : List (Option Nat) → List (Option Nat) → Nat → Option Int) (r : Nat) (p : List (Option Nat)) : PyData := .list ((plansP os ws 1 os.length).map fun q => encV (A p q r))
noncomputable abbrev aloneX : Ex := callD 2 m_law_alone (consD (callD 4 m_law_kept_too (consD (varD 8) (consD (varD 9) (consD (varD 14) (consD (varD 23) nilD))))) (consD (varD 12) nilD))
theorem alone_ex (V : Va os ws) (T : Tab os ws P F0 F1 A) {p q : List (Option Nat)} (hp : p ∈ plansP os ws 0 os.length) (hq : q ∈ plansP os ws 1 os.length) {r : Nat} (hr : r < os.length) (su as ta row k wo on be : Sl) (g : DL.G) : aloneX (N27 os ws PP (.sh (.int (r : Int))) (.sh (plD p)) su as ta row k (.sh (plD q)) wo on be) g = .ok (encV (A p q r)) g := by
  have n2 := V.n2
  have h1 := lawKeptToo_ok V hp hq g
  have h2 := alone_ok (both_ow V hp hq) (by omega) hr (T.a p hp q hq) g
  unfold N27 aloneX
  generalize (bothL os ws p q).map encW3 = Z at h1 h2
  generalize encV (A p q r) = E at h2 ⊢
  generalize (plansP os ws 0 os.length).map plD = MI
  generalize (plansP os ws 1 os.length).map plD = TH
  generalize encA os ws = D
  generalize PP.map encV = D2
  generalize plD p = Dp at h1 ⊢
  generalize plD q = Dq at h1 ⊢
  simp only [owD, wyD] at h1
  simp [h1, h2]
theorem row_run (V : Va os ws) (T : Tab os ws P F0 F1 A) (hf : (plansP os ws 1 os.length).length ≤ 3000) {p : List (Option Nat)} (hp : p ∈ plansP os ws 0 os.length) {r : Nat} (hr : r < os.length) (su as ta k ot wo on be : Sl) (g : DL.G) : ∃ ot', forS (itemsD (varD 11)) (nameT 23) (appS 20 aloneX) (N27 os ws PP (.sh (.int (r : Int))) (.sh (plD p)) su as ta (.ow (.lst [])) k ot wo on be) g = .nx (N27 os ws PP (.sh (.int (r : Int))) (.sh (plD p)) su as ta (.ow (.lst ((plansP os ws 1 os.length).map fun q => encV (A p q r)))) k ot' wo on be) g := by
  obtain ⟨ρ', g', h1, hg', ot', rfl⟩ := forD_all (t := nameT 23) (body := appS 20 aloneX) plD (fun pre ρ g' => g' = g ∧ ∃ ot', ρ = N27 os ws PP (.sh (.int (r : Int))) (.sh (plD p)) su as ta (.ow (.lst (pre.map fun q => encV (A p q r)))) k ot' wo on be) (plansP os ws 1 os.length) (by
    rintro pre q post e ρ g' ⟨e', ot', rfl⟩
    have hq : q ∈ plansP os ws 1 os.length := by rw [e]; simp
    have hl : pre.length < 3000 := by
      have := congrArg List.length e
      rw [List.length_append, List.length_cons] at this
      omega
    have ha := alone_ex (PP := PP) V T hp hq hr su as ta (.ow (.lst (pre.map fun q => encV (A p q r)))) k wo on be g'
    have hb : (pre.map fun q => encV (A p q r)).length < 1000000 := by rw [List.length_map]; omega
    refine ⟨N27 os ws PP (.sh (.int (r : Int))) (.sh (plD p)) su as ta (.ow (.lst (pre.map fun q => encV (A p q r)))) k (.sh (plD q)) wo on be, N27 os ws PP (.sh (.int (r : Int))) (.sh (plD p)) su as ta (.ow (.lst ((pre ++ [q]).map fun q => encV (A p q r)))) k (.sh (plD q)) wo on be, g', by simp, .inl ?_, e', _, rfl⟩
    rw [List.map_append]
    generalize (pre.map fun q => encV (A p q r)) = L at ha hb ⊢
    generalize aloneX = X at ha ⊢
    unfold appS
    rw [ha]
    simp [hb, big]) (g := g) (ρ := N27 os ws PP (.sh (.int (r : Int))) (.sh (plD p)) su as ta (.ow (.lst [])) k ot wo on be) ⟨rfl, _, rfl⟩
  rw [hg'] at h1
  refine ⟨ot', for_run (g1 := g) ?_ h1⟩
  unfold N27
  generalize (plansP os ws 1 os.length).map plD = TH
  simp
theorem table_run (V : Va os ws) (T : Tab os ws P F0 F1 A) (hf0 : (plansP os ws 0 os.length).length ≤ 3000) (hf : (plansP os ws 1 os.length).length ≤ 3000) {r : Nat} (hr : r < os.length) (p su as row k ot wo on be : Sl) (g : DL.G) : ∃ p' row' ot', forS (itemsD (varD 10)) (nameT 14)
  (seqS (setOS 20 (lstO nilD))
  (seqS (forS (itemsD (varD 11)) (nameT 23) (appS 20 aloneX))
  (shutS 20 (appS 19 (varD 20))))) (N27 os ws PP (.sh (.int (r : Int))) p su as (.ow (.lst [])) row k ot wo on be) g = .nx (N27 os ws PP (.sh (.int (r : Int))) p' su as (.ow (.lst ((plansP os ws 0 os.length).map (rowV os ws A r)))) row' k ot' wo on be) g := by
  obtain ⟨ρ', g', h1, hg', p', row', ot', rfl⟩ := forD_all (t := nameT 14) (body := seqS (setOS 20 (lstO nilD))
    (seqS (forS (itemsD (varD 11)) (nameT 23) (appS 20 aloneX))
    (shutS 20 (appS 19 (varD 20))))) plD (fun pre ρ g' => g' = g ∧ ∃ p' row' ot', ρ = N27 os ws PP (.sh (.int (r : Int))) p' su as (.ow (.lst (pre.map (rowV os ws A r)))) row' k ot' wo on be) (plansP os ws 0 os.length) (by
    rintro pre q post e ρ g' ⟨e', p', row', ot', rfl⟩
    have hq : q ∈ plansP os ws 0 os.length := by rw [e]; simp
    have hl : pre.length < 3000 := by
      have := congrArg List.length e
      rw [List.length_append, List.length_cons] at this
      omega
    have hb : (pre.map (rowV os ws A r)).length < 1000000 := by rw [List.length_map]; omega
    obtain ⟨ot2, hrow⟩ := row_run (PP := PP) V T hf hq hr su as (.ow (.lst (pre.map (rowV os ws A r)))) k ot' wo on be g'
    refine ⟨N27 os ws PP (.sh (.int (r : Int))) (.sh (plD q)) su as (.ow (.lst (pre.map (rowV os ws A r)))) row' k ot' wo on be, N27 os ws PP (.sh (.int (r : Int))) (.sh (plD q)) su as (.ow (.lst ((pre ++ [q]).map (rowV os ws A r)))) (.sh (rowV os ws A r q)) k ot2 wo on be, g', by simp, .inl ?_, e', _, _, _, rfl⟩
    refine (seq_eq (a := setOS 20 (lstO nilD)) (ρ1 := N27 os ws PP (.sh (.int (r : Int))) (.sh (plD q)) su as (.ow (.lst (pre.map (rowV os ws A r)))) (.ow (.lst [])) k ot' wo on be) (g1 := g') rfl).trans ?_
    refine (seq_eq hrow).trans ?_
    show appS 19 (varD 20) (N27 os ws PP (.sh (.int (r : Int))) (.sh (plD q)) su as (.ow (.lst (pre.map (rowV os ws A r)))) (.sh (rowV os ws A r q)) k ot2 wo on be) g' = _
    rw [List.map_append]
    show _ = SR.nx (N27 os ws PP (.sh (.int (r : Int))) (.sh (plD q)) su as (.ow (.lst (pre.map (rowV os ws A r) ++ [rowV os ws A r q]))) (.sh (rowV os ws A r q)) k ot2 wo on be) g'
    generalize pre.map (rowV os ws A r) = L at hb ⊢
    generalize rowV os ws A r q = D
    simp [hb, big]) (g := g) (ρ := N27 os ws PP (.sh (.int (r : Int))) p su as (.ow (.lst [])) row k ot wo on be) ⟨rfl, _, _, _, rfl⟩
  rw [hg'] at h1
  refine ⟨p', row', ot', for_run (g1 := g) ?_ h1⟩
  unfold N27
  generalize (plansP os ws 0 os.length).map plD = MI
  simp
/-- the greatest of the rows, the least of these -/
theorem sure_run (T : Tab os ws P F0 F1 A) {r : Nat} (hr : r < os.length) (p as row k ot wo on be : Sl) (g : DL.G) : ∃ row' wo' on', forS (itemsD (varD 19)) (nameT 20)
  (seqS (setS 24 (constD (.int 0)))
  (seqS (forS (itemsD (varD 20)) (nameT 25)
  (setS 24 (callD 2 m_law_greater (consD (varD 24) (consD (varD 25) nilD)))))
  (setS 17 (callD 2 m_law_lesser (consD (varD 17) (consD (varD 24) nilD)))))) (N27 os ws PP (.sh (.int (r : Int))) p (.sh .none) as (.sh (.list ((plansP os ws 0 os.length).map (rowV os ws A r)))) row k ot wo on be) g = .nx (N27 os ws PP (.sh (.int (r : Int))) p (.sh (encV (P r))) as (.sh (.list ((plansP os ws 0 os.length).map (rowV os ws A r)))) row' k ot wo' on' be) g := by
  obtain ⟨ρ', g', h1, hg', row', wo', on', rfl⟩ := forD_all (t := nameT 20) (body := seqS (setS 24 (constD (.int 0)))
    (seqS (forS (itemsD (varD 20)) (nameT 25)
    (setS 24 (callD 2 m_law_greater (consD (varD 24) (consD (varD 25) nilD)))))
    (setS 17 (callD 2 m_law_lesser (consD (varD 17) (consD (varD 24) nilD)))))) (rowV os ws A r) (fun pre ρ g' => g' = g ∧ ∃ row' wo' on', ρ = N27 os ws PP (.sh (.int (r : Int))) p (.sh (encV ((pre.map fun p => F0 p r).foldl lsO none))) as (.sh (.list ((plansP os ws 0 os.length).map (rowV os ws A r)))) row' k ot wo' on' be) (plansP os ws 0 os.length) (by
    rintro pre q post e ρ g' ⟨e', row', wo', on', rfl⟩
    have hq : q ∈ plansP os ws 0 os.length := by rw [e]; simp
    have hrow := T.row hq hr
    obtain ⟨ρ2, g2, h2, hg2, on2, rfl⟩ := forD_all (t := nameT 25) (body := setS 24 (callD 2 m_law_greater (consD (varD 24) (consD (varD 25) nilD)))) (fun q' => encV (A q q' r)) (fun pre2 ρ g'' => g'' = g' ∧ ∃ on2, ρ = N27 os ws PP (.sh (.int (r : Int))) p (.sh (encV ((pre.map fun p => F0 p r).foldl lsO none))) as (.sh (.list ((plansP os ws 0 os.length).map (rowV os ws A r)))) (.sh (rowV os ws A r q)) k ot (.sh (encV ((pre2.map fun q' => A q q' r).foldl grO (some 0)))) on2 be) (plansP os ws 1 os.length) (by
      rintro pre2 q' post2 e2 ρ g'' ⟨e'', on2, rfl⟩
      refine ⟨N27 os ws PP (.sh (.int (r : Int))) p (.sh (encV ((pre.map fun p => F0 p r).foldl lsO none))) as (.sh (.list ((plansP os ws 0 os.length).map (rowV os ws A r)))) (.sh (rowV os ws A r q)) k ot (.sh (encV ((pre2.map fun q' => A q q' r).foldl grO (some 0)))) (.sh (encV (A q q' r))) be, _, g'', by simp, .inl ?_, e'', .sh (encV (A q q' r)), rfl⟩
      rw [List.map_append, List.foldl_append]
      have hg := greater_ok ((pre2.map fun q' => A q q' r).foldl grO (some 0)) (A q q' r) g''
      show _ = SR.nx (N27 os ws PP (.sh (.int (r : Int))) p (.sh (encV ((pre.map fun p => F0 p r).foldl lsO none))) as (.sh (.list ((plansP os ws 0 os.length).map (rowV os ws A r)))) (.sh (rowV os ws A r q)) k ot (.sh (encV (grO ((pre2.map fun q' => A q q' r).foldl grO (some 0)) (A q q' r)))) (.sh (encV (A q q' r))) be) g''
      generalize encV ((pre2.map fun q' => A q q' r).foldl grO (some 0)) = d1 at hg ⊢
      generalize encV (A q q' r) = d2 at hg ⊢
      simp [hg]) (g := g') (ρ := N27 os ws PP (.sh (.int (r : Int))) p (.sh (encV ((pre.map fun p => F0 p r).foldl lsO none))) as (.sh (.list ((plansP os ws 0 os.length).map (rowV os ws A r)))) (.sh (rowV os ws A r q)) k ot (.sh (.int 0)) on' be) ⟨rfl, _, rfl⟩
    rw [hg2, hrow] at h2
    refine ⟨N27 os ws PP (.sh (.int (r : Int))) p (.sh (encV ((pre.map fun p => F0 p r).foldl lsO none))) as (.sh (.list ((plansP os ws 0 os.length).map (rowV os ws A r)))) (.sh (rowV os ws A r q)) k ot wo' on' be, N27 os ws PP (.sh (.int (r : Int))) p (.sh (encV (((pre ++ [q]).map fun p => F0 p r).foldl lsO none))) as (.sh (.list ((plansP os ws 0 os.length).map (rowV os ws A r)))) (.sh (rowV os ws A r q)) k ot (.sh (encV (F0 q r))) on2 be, g', by simp, .inl ?_, e', _, _, _, rfl⟩
    refine (seq_eq (a := setS 24 (constD (.int 0))) (ρ1 := N27 os ws PP (.sh (.int (r : Int))) p (.sh (encV ((pre.map fun p => F0 p r).foldl lsO none))) as (.sh (.list ((plansP os ws 0 os.length).map (rowV os ws A r)))) (.sh (rowV os ws A r q)) k ot (.sh (.int 0)) on' be) (g1 := g') rfl).trans ?_
    refine (seq_eq (for_run (g1 := g') rfl h2)).trans ?_
    rw [List.map_append, List.foldl_append]
    have hl := lesser_ok ((pre.map fun p => F0 p r).foldl lsO none) (F0 q r) g'
    show _ = SR.nx (N27 os ws PP (.sh (.int (r : Int))) p (.sh (encV (lsO ((pre.map fun p => F0 p r).foldl lsO none) (F0 q r)))) as (.sh (.list ((plansP os ws 0 os.length).map (rowV os ws A r)))) (.sh (rowV os ws A r q)) k ot (.sh (encV (F0 q r))) on2 be) g'
    generalize encV ((pre.map fun p => F0 p r).foldl lsO none) = d1 at hl ⊢
    generalize encV (F0 q r) = d2 at hl ⊢
    simp [hl]) (g := g) (ρ := N27 os ws PP (.sh (.int (r : Int))) p (.sh .none) as (.sh (.list ((plansP os ws 0 os.length).map (rowV os ws A r)))) row k ot wo on be) ⟨rfl, _, _, _, rfl⟩
  rw [hg', T.sure hr] at h1
  exact ⟨row', wo', on', for_run (g1 := g) rfl h1⟩
theorem asked_run (T : Tab os ws P F0 F1 A) (hf : (plansP os ws 1 os.length).length ≤ 3000) {r : Nat} (hr : r < os.length) (p su row k ot wo on be : Sl) (g : DL.G) : ∃ row' k' be', forS (rangeD (unD lenD (varD 11))) (nameT 21)
  (seqS (setS 26 (constD .none))
  (seqS (forS (itemsD (varD 19)) (nameT 20)
  (setS 26 (callD 2 m_law_lesser (consD (varD 26) (consD (opD ixD (varD 20) (varD 21)) nilD)))))
  (setS 18 (callD 2 m_law_greater (consD (varD 18) (consD (varD 26) nilD)))))) (N27 os ws PP (.sh (.int (r : Int))) p su (.sh (.int 0)) (.sh (.list ((plansP os ws 0 os.length).map (rowV os ws A r)))) row k ot wo on be) g = .nx (N27 os ws PP (.sh (.int (r : Int))) p su (.sh (encV (P r))) (.sh (.list ((plansP os ws 0 os.length).map (rowV os ws A r)))) row' k' ot wo on be') g := by
  have hb : (((plansP os ws 1 os.length).length : Nat) : Int) ≤ 1000000 ∧ -1000000 ≤ (((plansP os ws 1 os.length).length : Nat) : Int) := by omega
  let X : Nat → List (Option Nat) := fun j => (plansP os ws 1 os.length)[j]?.getD []
  obtain ⟨ρ', g', h1, hg', row', k', be', rfl⟩ := forD_all (t := nameT 21) (body := seqS (setS 26 (constD .none))
    (seqS (forS (itemsD (varD 19)) (nameT 20)
    (setS 26 (callD 2 m_law_lesser (consD (varD 26) (consD (opD ixD (varD 20) (varD 21)) nilD)))))
    (setS 18 (callD 2 m_law_greater (consD (varD 18) (consD (varD 26) nilD)))))) (fun k : Nat => PyData.int (0 + (k : Int))) (fun pre ρ g' => g' = g ∧ ∃ row' k' be', ρ = N27 os ws PP (.sh (.int (r : Int))) p su (.sh (encV ((pre.map fun j => F1 (X j) r).foldl grO (some 0)))) (.sh (.list ((plansP os ws 0 os.length).map (rowV os ws A r)))) row' k' ot wo on be') (List.range (plansP os ws 1 os.length).length) (by
    rintro pre j post e ρ g' ⟨e', row', k', be', rfl⟩
    obtain ⟨_, hj, _⟩ := range_pre e
    have hX : X j ∈ plansP os ws 1 os.length := by
      show (plansP os ws 1 os.length)[j]?.getD [] ∈ _
      rw [List.getElem?_eq_getElem hj]
      exact List.getElem_mem hj
    have hcol := T.col hX hr
    obtain ⟨ρ2, g2, h2, hg2, row2, rfl⟩ := forD_all (t := nameT 20) (body := setS 26 (callD 2 m_law_lesser (consD (varD 26) (consD (opD ixD (varD 20) (varD 21)) nilD)))) (rowV os ws A r) (fun pre2 ρ g'' => g'' = g' ∧ ∃ row2, ρ = N27 os ws PP (.sh (.int (r : Int))) p su (.sh (encV ((pre.map fun j => F1 (X j) r).foldl grO (some 0)))) (.sh (.list ((plansP os ws 0 os.length).map (rowV os ws A r)))) row2 (.sh (.int (j : Int))) ot wo on (.sh (encV ((pre2.map fun p' => A p' (X j) r).foldl lsO none)))) (plansP os ws 0 os.length) (by
      rintro pre2 p' post2 e2 ρ g'' ⟨e'', row2, rfl⟩
      refine ⟨N27 os ws PP (.sh (.int (r : Int))) p su (.sh (encV ((pre.map fun j => F1 (X j) r).foldl grO (some 0)))) (.sh (.list ((plansP os ws 0 os.length).map (rowV os ws A r)))) (.sh (rowV os ws A r p')) (.sh (.int (j : Int))) ot wo on (.sh (encV ((pre2.map fun p' => A p' (X j) r).foldl lsO none))), _, g'', by simp, .inl ?_, e'', .sh (rowV os ws A r p'), rfl⟩
      rw [List.map_append, List.foldl_append]
      have hg := lesser_ok ((pre2.map fun p' => A p' (X j) r).foldl lsO none) (A p' (X j) r) g''
      have hix : ixD (rowV os ws A r p') (.int (j : Int)) = some (encV (A p' (X j) r)) := by
        refine ix_mapl (fun q => encV (A p' q r)) (plansP os ws 1 os.length) j (X j) ?_
        show _ = some ((plansP os ws 1 os.length)[j]?.getD [])
        rw [List.getElem?_eq_getElem hj]; rfl
      show _ = SR.nx (N27 os ws PP (.sh (.int (r : Int))) p su (.sh (encV ((pre.map fun j => F1 (X j) r).foldl grO (some 0)))) (.sh (.list ((plansP os ws 0 os.length).map (rowV os ws A r)))) (.sh (rowV os ws A r p')) (.sh (.int (j : Int))) ot wo on (.sh (encV (lsO ((pre2.map fun p' => A p' (X j) r).foldl lsO none) (A p' (X j) r))))) g''
      generalize encV ((pre2.map fun p' => A p' (X j) r).foldl lsO none) = d1 at hg ⊢
      generalize encV (A p' (X j) r) = d2 at hg hix ⊢
      generalize rowV os ws A r p' = D at hix ⊢
      simp [hix, hg]) (g := g') (ρ := N27 os ws PP (.sh (.int (r : Int))) p su (.sh (encV ((pre.map fun j => F1 (X j) r).foldl grO (some 0)))) (.sh (.list ((plansP os ws 0 os.length).map (rowV os ws A r)))) row' (.sh (.int (j : Int))) ot wo on (.sh .none)) ⟨rfl, _, rfl⟩
    rw [hg2, hcol] at h2
    refine ⟨N27 os ws PP (.sh (.int (r : Int))) p su (.sh (encV ((pre.map fun j => F1 (X j) r).foldl grO (some 0)))) (.sh (.list ((plansP os ws 0 os.length).map (rowV os ws A r)))) row' (.sh (.int (j : Int))) ot wo on be', N27 os ws PP (.sh (.int (r : Int))) p su (.sh (encV (((pre ++ [j]).map fun j => F1 (X j) r).foldl grO (some 0)))) (.sh (.list ((plansP os ws 0 os.length).map (rowV os ws A r)))) row2 (.sh (.int (j : Int))) ot wo on (.sh (encV (F1 (X j) r))), g', by simp, .inl ?_, e', _, _, _, rfl⟩
    refine (seq_eq (a := setS 26 (constD .none)) (ρ1 := N27 os ws PP (.sh (.int (r : Int))) p su (.sh (encV ((pre.map fun j => F1 (X j) r).foldl grO (some 0)))) (.sh (.list ((plansP os ws 0 os.length).map (rowV os ws A r)))) row' (.sh (.int (j : Int))) ot wo on (.sh .none)) (g1 := g') rfl).trans ?_
    refine (seq_eq (for_run (g1 := g') rfl h2)).trans ?_
    rw [List.map_append, List.foldl_append]
    have hl := greater_ok ((pre.map fun j => F1 (X j) r).foldl grO (some 0)) (F1 (X j) r) g'
    show _ = SR.nx (N27 os ws PP (.sh (.int (r : Int))) p su (.sh (encV (grO ((pre.map fun j => F1 (X j) r).foldl grO (some 0)) (F1 (X j) r)))) (.sh (.list ((plansP os ws 0 os.length).map (rowV os ws A r)))) row2 (.sh (.int (j : Int))) ot wo on (.sh (encV (F1 (X j) r)))) g'
    generalize encV ((pre.map fun j => F1 (X j) r).foldl grO (some 0)) = d1 at hl ⊢
    generalize encV (F1 (X j) r) = d2 at hl ⊢
    simp [hl]) (g := g) (ρ := N27 os ws PP (.sh (.int (r : Int))) p su (.sh (.int 0)) (.sh (.list ((plansP os ws 0 os.length).map (rowV os ws A r)))) row k ot wo on be) ⟨rfl, _, _, _, rfl⟩
  have e9 : (List.range (plansP os ws 1 os.length).length).map (fun j => F1 (X j) r) = (plansP os ws 1 os.length).map fun q => F1 q r := by
    apply List.ext_getElem?
    intro i
    rw [List.getElem?_map, List.getElem?_map]
    by_cases hi : i < (plansP os ws 1 os.length).length
    · rw [List.getElem?_range hi, List.getElem?_eq_getElem hi]
      show some (F1 ((plansP os ws 1 os.length)[i]?.getD []) r) = _
      rw [List.getElem?_eq_getElem hi]; rfl
    · rw [List.getElem?_eq_none (by rw [List.length_range]; omega), List.getElem?_eq_none (by omega)]; rfl
  rw [hg', e9, T.asked hr, ← upFrom_map] at h1
  refine ⟨row', k', be', for_run (g1 := g) ?_ h1⟩
  have hlen : ((plansP os ws 1 os.length).map plD).length = (plansP os ws 1 os.length).length := List.length_map _
  unfold N27
  generalize (plansP os ws 1 os.length).map plD = TH at hlen ⊢
  generalize (plansP os ws 1 os.length).length = c at hlen hb ⊢
  simp [hlen, hb, big]
end
end K

set_option Elab.async false
set_option linter.all false
set_option maxRecDepth 100000
set_option maxHeartbeats 400000
namespace K
open PySem DL PyProof.Rows
theorem cut_map {α : Type} (f : α → PyData) (l : List α) (lo hi : Option Int) : ∃ l' : List α, cutP (l.map f) lo hi = l'.map f ∧ l'.length ≤ l.length ∧ ∀ x ∈ l', x ∈ l := by
  unfold cutP
  rw [List.length_map]
  refine ⟨(l.drop (HT.sIx l.length 0 lo)).take (HT.sIx l.length l.length hi - HT.sIx l.length 0 lo), by rw [List.map_take, List.map_drop], by rw [List.length_take, List.length_drop]; omega, fun x hx => List.mem_of_mem_drop (List.mem_of_mem_take hx)⟩
theorem cons_ok {e : Ex} {es : Ar} {d : PyData} {ds : List PyData} {ρ : Nv} {g : DL.G} (h1 : e ρ g = .ok d g) (h2 : es ρ g = .ok ds g) : consD e es ρ g = .ok (d :: ds) g := by
  simp [h1, h2]
theorem comp_pure {α : Type} {fi : Ar} {j : Nat} {e : Ex} (enc : α → PyData) (f : α → PyData) (xs : List α) {ρ : Nv} {g : DL.G} (hi : fi ρ g = .ok (xs.map enc) g) (hl : xs.length ≤ 1000) (h : ∀ x ∈ xs, e ((ρ.set j .no).set j (.sh (enc x))) g = .ok (f x) g) : shareO (lcO fi [j] (nameT j) yesT e) ρ g = .ok (.list (xs.map f)) g := by
  have c := compD_pure (t := nameT j) (cond := yesT) (elt := e) enc (fun _ => true) f xs (ρ.set j .no) g fun x hx => ⟨_, rfl, rfl, fun _ => h x hx⟩
  rw [List.filter_eq_self.mpr fun _ _ => rfl] at c
  have hb : xs.length ≤ 1000000 := by omega
  simp [hi, hb, big, c]
theorem op_ok {o : PyData → PyData → Option PyData} {e1 e2 : Ex} {a b d : PyData} {ρ : Nv} {g : DL.G} (h1 : e1 ρ g = .ok a g) (h2 : e2 ρ g = .ok b g) (h3 : o a b = some d) : opD o e1 e2 ρ g = .ok d g := by
  simp [h1, h2, h3]
theorem cut_lo (ds : List PyData) (k : Nat) (h : k ≤ ds.length) : cutP ds none (some (k : Int)) = ds.take k := by
  unfold cutP
  rw [HT.sIx_none, HT.sIx_nat, Nat.min_eq_left h]
  simp
theorem cut_hi (ds : List PyData) (k : Nat) (h : k ≤ ds.length) : cutP ds (some (k : Int)) none = ds.drop k := by
  unfold cutP
  rw [HT.sIx_none, HT.sIx_nat, Nat.min_eq_left h]
  rw [List.take_of_length_le (by rw [List.length_drop]; omega)]
theorem un_ok {o : PyData → Option PyData} {e : Ex} {a d : PyData} {ρ : Nv} {g : DL.G} (h1 : e ρ g = .ok a g) (h3 : o a = some d) : unD o e ρ g = .ok d g := by
  simp [h1, h3]
theorem bool_ok {e : Ex} {b : Bool} {ρ : Nv} {g : DL.G} (h : e ρ g = .ok (.bool b) g) : boolD e ρ g = .ok b g := by
  simp [h]
theorem tup_ok {es : Ar} {ds : List PyData} {ρ : Nv} {g : DL.G} (h : es ρ g = .ok ds g) (hl : ds.length ≤ 1000) : tupD es ρ g = .ok (.tuple ds) g := by
  simp [h, hl]
theorem le_cmp (a b : Int) : cmpD (fun i j => decide (i ≤ j)) (.int a) (.int b) = some (.bool (decide (a ≤ b))) := rfl
section
variable {os : List Int} {ws : List W3} {PP : List (Option Int)} {F0 F1 : List (Option Nat) → Nat → Option Int} {A : List (Option Nat) → List (Option Nat) → Nat → Option Int}
noncomputable abbrev askS : Sm := ifS (orT (boolD (opD neD (varD 17) (opD ixD (varD 4) (varD 12)))) (boolD (opD neD (varD 18) (opD ixD (varD 4) (varD 12)))))
  (retS (constD (.bool false)))
  nextS
noncomputable abbrev tailB : Sm := seqS (forS (itemsD (varD 19)) (nameT 20)
  (seqS (setS 24 (constD (.int 0)))
  (seqS (forS (itemsD (varD 20)) (nameT 25)
  (setS 24 (callD 2 m_law_greater (consD (varD 24) (consD (varD 25) nilD)))))
  (setS 17 (callD 2 m_law_lesser (consD (varD 17) (consD (varD 24) nilD)))))))
  (seqS (forS (rangeD (unD lenD (varD 11))) (nameT 21)
  (seqS (setS 26 (constD .none))
  (seqS (forS (itemsD (varD 19)) (nameT 20)
  (setS 26 (callD 2 m_law_lesser (consD (varD 26) (consD (opD ixD (varD 20) (varD 21)) nilD)))))
  (setS 18 (callD 2 m_law_greater (consD (varD 18) (consD (varD 26) nilD)))))))
  askS)
noncomputable abbrev roomB : Sm := seqS (setS 17 (constD .none))
  (seqS (setS 18 (constD (.int 0)))
  (seqS (setOS 19 (lstO nilD))
  (seqS (forS (itemsD (varD 10)) (nameT 14)
  (seqS (setOS 20 (lstO nilD))
  (seqS (forS (itemsD (varD 11)) (nameT 23) (appS 20 aloneX))
  (shutS 20 (appS 19 (varD 20))))))
  (shutS 19 tailB))))
theorem shut_eq {i : Nat} {b : Sm} {ds : List PyData} {ρ : Nv} {g : DL.G} (h : ρ[i]? = some (.ow (.lst ds))) : shutS i b ρ g = b (ρ.set i (.sh (.list ds))) g := by
  unfold shutS
  rw [h]
theorem room_ok (V : Va os ws) (T : Tab os ws (pF PP) F0 F1 A) (hPl : PP.length = os.length) (hf : ∀ pl, (plansP os ws pl os.length).length ≤ 3000) {r : Nat} (hr : r < os.length) (p su as ta row k ot wo on be : Sl) (g : DL.G) : ∃ p' su' as' ta' row' k' ot' wo' on' be', roomB (N27 os ws PP (.sh (.int (r : Int))) p su as ta row k ot wo on be) g = .nx (N27 os ws PP (.sh (.int (r : Int))) p' su' as' ta' row' k' ot' wo' on' be') g := by
  obtain ⟨p1, row1, ot1, h1⟩ := table_run (PP := PP) V T (hf 0) (hf 1) hr p (.sh .none) (.sh (.int 0)) row k ot wo on be g
  obtain ⟨row2, wo2, on2, h2⟩ := sure_run (ws := ws) (PP := PP) T hr p1 (.sh (.int 0)) row1 k ot1 wo on be g
  obtain ⟨row3, k3, be3, h3⟩ := asked_run (PP := PP) T (hf 1) hr p1 (.sh (encV (pF PP r))) row2 k ot1 wo2 on2 be g
  refine ⟨p1, .sh (encV (pF PP r)), .sh (encV (pF PP r)), .sh (.list ((plansP os ws 0 os.length).map (rowV os ws A r))), row3, k3, ot1, wo2, on2, be3, ?_⟩
  unfold roomB
  refine (seq_eq (a := setS 17 (constD .none)) (ρ1 := N27 os ws PP (.sh (.int (r : Int))) p (.sh .none) as ta row k ot wo on be) (g1 := g) rfl).trans ?_
  refine (seq_eq (a := setS 18 (constD (.int 0))) (ρ1 := N27 os ws PP (.sh (.int (r : Int))) p (.sh .none) (.sh (.int 0)) ta row k ot wo on be) (g1 := g) rfl).trans ?_
  refine (seq_eq (a := setOS 19 (lstO nilD)) (ρ1 := N27 os ws PP (.sh (.int (r : Int))) p (.sh .none) (.sh (.int 0)) (.ow (.lst [])) row k ot wo on be) (g1 := g) rfl).trans ?_
  refine (seq_eq h1).trans ?_
  refine (shut_eq (i := 19) (b := tailB) (ds := (plansP os ws 0 os.length).map (rowV os ws A r)) rfl).trans ?_
  show tailB (N27 os ws PP (.sh (.int (r : Int))) p1 (.sh .none) (.sh (.int 0)) (.sh (.list ((plansP os ws 0 os.length).map (rowV os ws A r)))) row1 k ot1 wo on be) g = _
  unfold tailB
  refine (seq_eq h2).trans ?_
  refine (seq_eq h3).trans ?_
  have e1 : ixD (.list (PP.map encV)) (.int (r : Int)) = some (encV (pF PP r)) := at_map (by omega)
  have e2 : neD (encV (pF PP r)) (encV (pF PP r)) = some (.bool false) := by rw [ne_x]; simp
  refine (if_no (g1 := g) ?_).trans rfl
  unfold N27
  generalize PP.map encV = D at e1 ⊢
  generalize encV (pF PP r) = E at e1 e2 ⊢
  generalize (plansP os ws 0 os.length).map plD = MI
  generalize (plansP os ws 1 os.length).map plD = TH
  generalize encA os ws = D3
  simp [e1, e2]
/-- all rooms -/
theorem rooms_ok (V : Va os ws) (T : Tab os ws (pF PP) F0 F1 A) (hPl : PP.length = os.length) (hf : ∀ pl, (plansP os ws pl os.length).length ≤ 3000) (p su as ta row k ot wo on be : Sl) (g : DL.G) : ∃ ro' p' su' as' ta' row' k' ot' wo' on' be', forS (rangeD (varD 2)) (nameT 12) roomB (N27 os ws PP .no p su as ta row k ot wo on be) g = .nx (N27 os ws PP ro' p' su' as' ta' row' k' ot' wo' on' be') g := by
  have n2 := V.n2
  have hb : ((os.length : Nat) : Int) ≤ 1000000 ∧ -1000000 ≤ ((os.length : Nat) : Int) := by omega
  obtain ⟨ρ', g', h1, hg', ro', p', su', as', ta', row', k', ot', wo', on', be', rfl⟩ := forD_all (t := nameT 12) (body := roomB) (fun k : Nat => PyData.int (0 + (k : Int))) (fun _ ρ g' => g' = g ∧ ∃ ro' p' su' as' ta' row' k' ot' wo' on' be', ρ = N27 os ws PP ro' p' su' as' ta' row' k' ot' wo' on' be') (List.range os.length) (by
    rintro pre j post e ρ g' ⟨e', ro', p', su', as', ta', row', k', ot', wo', on', be', rfl⟩
    obtain ⟨_, hj, _⟩ := range_pre e
    obtain ⟨p2, su2, as2, ta2, row2, k2, ot2, wo2, on2, be2, h2⟩ := room_ok (PP := PP) V T hPl hf hj p' su' as' ta' row' k' ot' wo' on' be' g'
    rw [show ((j : Nat) : Int) = 0 + (j : Int) by omega] at h2
    exact ⟨_, _, g', rfl, .inl h2, e', _, _, _, _, _, _, _, _, _, _, _, rfl⟩) (g := g) (ρ := N27 os ws PP .no p su as ta row k ot wo on be) ⟨rfl, _, _, _, _, _, _, _, _, _, _, _, rfl⟩
  rw [hg', ← upFrom_map] at h1
  exact ⟨ro', p', su', as', ta', row', k', ot', wo', on', be', for_run (g1 := g) (by simp [hb, big]) h1⟩
theorem mul_small2 (a b : Int) (h : -1000000 < b ∧ b < 1000000) : mulD (.int a) (.int b) = some (.int (a * b)) := by
  have h2 : -18446744073709551616 < b ∧ b < 18446744073709551616 := by omega
  simp [h2]
theorem few_ok (V : Va os ws) (T : Tab os ws (pF PP) F0 F1 A) (hPl : PP.length = os.length) (hf : ∀ pl, (plansP os ws pl os.length).length ≤ 3000) (g : DL.G) : ∃ ro' p' su' as' ta' row' k' ot' wo' on' be', ifS (boolD (opD (cmpD fun i j => decide (i ≤ j)) (opD mulD (unD lenD (varD 10)) (unD lenD (varD 11))) (constD (.int 200))))
  (forS (rangeD (varD 2)) (nameT 12) roomB)
  nextS (N27 os ws PP .no .no .no .no .no .no .no .no .no .no .no) g = .nx (N27 os ws PP ro' p' su' as' ta' row' k' ot' wo' on' be') g := by
  obtain ⟨ro', p', su', as', ta', row', k', ot', wo', on', be', h⟩ := rooms_ok (PP := PP) V T hPl hf .no .no .no .no .no .no .no .no .no .no g
  have h0 := hf 0
  have h1 := hf 1
  have hm := mul_small2 ((plansP os ws 0 os.length).length : Int) ((plansP os ws 1 os.length).length : Int) (by omega)
  have l0 : lenD (.list ((plansP os ws 0 os.length).map plD)) = some (.int ((plansP os ws 0 os.length).length : Int)) := by simp
  have l1 : lenD (.list ((plansP os ws 1 os.length).map plD)) = some (.int ((plansP os ws 1 os.length).length : Int)) := by simp
  have hc : boolD (opD (cmpD fun i j => decide (i ≤ j)) (opD mulD (unD lenD (varD 10)) (unD lenD (varD 11))) (constD (.int 200))) (N27 os ws PP .no .no .no .no .no .no .no .no .no .no .no) g = .ok (decide (((plansP os ws 0 os.length).length : Int) * ((plansP os ws 1 os.length).length : Int) ≤ 200)) g := by
    exact bool_ok (op_ok (op_ok (un_ok (a := .list ((plansP os ws 0 os.length).map plD)) rfl l0) (un_ok (a := .list ((plansP os ws 1 os.length).map plD)) rfl l1) hm) (b := .int 200) rfl (le_cmp _ _))
  by_cases hz : ((plansP os ws 0 os.length).length : Int) * ((plansP os ws 1 os.length).length : Int) ≤ 200
  · rw [decide_eq_true hz] at hc
    exact ⟨ro', p', su', as', ta', row', k', ot', wo', on', be', (if_yes hc).trans h⟩
  · rw [decide_eq_false hz] at hc
    exact ⟨_, _, _, _, _, _, _, _, _, _, _, (if_no hc).trans rfl⟩
end
end K

set_option Elab.async false
set_option linter.all false
set_option maxRecDepth 100000
set_option maxHeartbeats 400000
namespace K
open PySem DL PyProof.Rows
/-! ### what a plan is -/
abbrev Bv := Option (Bool ⊕ Int)
def encB : Bv → PyData
  | none => .none
  | some (.inl b) => .bool b
  | some (.inr z) => .int z
def toB : Option Nat → Bv
  | none => none
  | some k => some (.inr (k : Int))
def isBl : Bv → Bool
  | some (.inl _) => true
  | _ => false
theorem enc_toB (k : Option Nat) : encB (toB k) = encK k := by cases k <;> rfl
theorem map_toB (p : List (Option Nat)) : (p.map toB).map encB = p.map encK := by
  rw [List.map_map]
  exact List.map_congr_left fun k _ => enc_toB k
theorem flat_B (x : Bv) : (encB x).canLay0 = true ∧ (encB x).depth ≤ 1 := by
  cases x with
  | none => exact ⟨rfl, by simp [encB, PyData.depth]⟩
  | some y => cases y with
    | inl b => exact ⟨rfl, by simp [encB, PyData.depth]⟩
    | inr z => exact ⟨rfl, by simp [encB, PyData.depth]⟩
theorem flat_all : ∀ v : List Bv, PyData.canLayAll0 (v.map encB) = true ∧ PyData.depthAll (v.map encB) ≤ 1
  | [] => ⟨by simp [PyData.canLayAll0], by simp [PyData.depthAll]⟩
  | x :: v => by
    obtain ⟨a, b⟩ := flat_all v
    obtain ⟨a', b'⟩ := flat_B x
    exact ⟨by simp [PyData.canLayAll0, a, a'], by simp [PyData.depthAll]; omega⟩
theorem tup_B (v : List Bv) : (PyData.tuple (v.map encB)).canLay0 = true ∧ (PyData.tuple (v.map encB)).depth ≤ 2 := by
  obtain ⟨a, b⟩ := flat_all v
  exact ⟨by simp [PyData.canLay0, a], by simp [PyData.depth]; omega⟩
theorem eqv_B1 (k : Option Nat) (x : Bv) (hx : isBl x = false) : PyData.eqv (encK k) (encB x) = decide (toB k = x) := by
  cases k with
  | none => cases x with
    | none => simp [encK, encB, toB, PyData.eqv]
    | some y => cases y with
      | inl b => cases hx
      | inr z => simp [encK, encB, toB, PyData.eqv]
  | some k => cases x with
    | none => simp [encK, encB, toB, PyData.eqv]
    | some y => cases y with
      | inl b => cases hx
      | inr z =>
        by_cases h : (k : Int) = z
        · simp [encK, encB, toB, PyData.eqv, h]
        · simp [encK, encB, toB, PyData.eqv, h]
theorem eqv_B : ∀ (p : List (Option Nat)) (v : List Bv), (∀ x ∈ v, isBl x = false) → PyData.eqvAll (p.map encK) (v.map encB) = decide (p.map toB = v)
  | [], [], _ => by simp [PyData.eqvAll]
  | [], _ :: _, _ => by simp [PyData.eqvAll]
  | _ :: _, [], _ => by simp [PyData.eqvAll]
  | k :: p, x :: v, h => by
    have ih := eqv_B p v fun y hy => h y (List.mem_cons_of_mem _ hy)
    rw [List.map_cons, List.map_cons]
    simp only [PyData.eqvAll, ih, eqv_B1 k x (h x List.mem_cons_self)]
    rw [List.map_cons]
    by_cases h1 : toB k = x
    · by_cases h2 : p.map toB = v <;> simp [h1, h2]
    · simp [h1]
theorem in_plans (L : List (List (Option Nat))) (v : List Bv) (h : ∀ x ∈ v, isBl x = false) : inD (.tuple (v.map encB)) (.list (L.map plD)) = some (.bool (L.any fun p => decide (p.map toB = v))) := by
  have s1 : SeqAt.shaped (.tuple (v.map encB)) = true := by
    obtain ⟨a, b⟩ := tup_B v
    simp [SeqAt.shaped, a]
    omega
  have s2 : SeqAt.shaped (.list (L.map plD)) = true := shp_list fun d hd => by
    obtain ⟨p, _, rfl⟩ := List.mem_map.mp hd
    obtain ⟨a, b⟩ := tup_B (p.map toB)
    rw [map_toB] at a b
    exact ⟨a, Nat.le_trans b (by decide)⟩
  show (if _ then _ else _) = _
  rw [if_pos ⟨s1, s2⟩]
  congr 2
  rw [List.any_map]
  refine congrArg (fun f => L.any f) ?_
  funext p
  show PyData.eqv (.tuple (p.map encK)) (.tuple (v.map encB)) = _
  simp only [PyData.eqv]
  exact eqv_B p v h
section
variable {os : List Int} {ws : List W3} {pl : Int} {p : List (Option Nat)}
def goodB (os : List Int) (ws : List W3) (pl : Int) (v : List Bv) (r : Nat) : Bool := decide (∃ k ∈ optsP os ws pl r, toB k = v[r]?.getD none)
def okB (os : List Int) (ws : List W3) (pl : Int) (v : List Bv) : Bool := decide (v.length = os.length) && (List.range os.length).all (goodB os ws pl v)
theorem good_bl {v : List Bv} {r : Nat} (h : goodB os ws pl v r = true) : isBl (v[r]?.getD none) = false := by
  obtain ⟨k, _, e⟩ := of_decide_eq_true h
  rw [← e]
  cases k <;> rfl
theorem ok_iff (v : List Bv) : ((plansP os ws pl os.length).any fun p => decide (p.map toB = v)) = okB os ws pl v := by
  apply Bool.eq_iff_iff.mpr
  rw [List.any_eq_true]
  unfold okB
  rw [Bool.and_eq_true, decide_eq_true_iff, List.all_eq_true]
  constructor
  · rintro ⟨p, hp, e⟩
    have e := of_decide_eq_true e
    have hl := plan_len os.length p hp
    refine ⟨by rw [← e, List.length_map, hl], fun r hr => decide_eq_true ?_⟩
    have hr := List.mem_range.mp hr
    refine ⟨p[r]?.getD none, plan_at os.length p hp r hr, ?_⟩
    rw [← e, List.getElem?_map, List.getElem?_eq_getElem (by omega)]
    rfl
  · rintro ⟨hl, h⟩
    let f : Bv → Option Nat := fun x => match x with
      | some (.inr z) => some z.toNat
      | _ => none
    have hf : ∀ k, f (toB k) = k := fun k => by cases k <;> rfl
    have h' : ∀ r, r < os.length → ∃ k ∈ optsP os ws pl r, toB k = v[r]?.getD none := fun r hr => of_decide_eq_true (h r (List.mem_range.mpr hr))
    refine ⟨v.map f, plan_mk os.length _ (by rw [List.length_map, hl]) fun j hj => ?_, decide_eq_true ?_⟩
    · obtain ⟨k, hk, e⟩ := h' j hj
      rw [List.getElem?_map, List.getElem?_eq_getElem (by omega)]
      rw [List.getElem?_eq_getElem (by omega)] at e
      show f v[j] ∈ _
      have e : toB k = v[j] := e
      rw [← e, hf]
      exact hk
    · rw [List.map_map]
      apply List.ext_getElem?
      intro j
      rw [List.getElem?_map]
      by_cases hj : j < v.length
      · obtain ⟨k, hk, e⟩ := h' j (by omega)
        rw [List.getElem?_eq_getElem hj] at e ⊢
        have e : toB k = v[j] := e
        show some (toB (f v[j])) = some v[j]
        rw [← e, hf]
      · rw [List.getElem?_eq_none (by omega)]
        rfl
theorem bl_not {v : List Bv} {x : Bv} (hx : x ∈ v) (hb : isBl x = true) : okB os ws pl v = false := by
  cases e : okB os ws pl v with
  | false => rfl
  | true =>
    unfold okB at e
    rw [Bool.and_eq_true, decide_eq_true_iff, List.all_eq_true] at e
    obtain ⟨j, hj, rfl⟩ := List.getElem_of_mem hx
    have := good_bl (e.2 j (List.mem_range.mpr (by omega)))
    rw [List.getElem?_eq_getElem hj] at this
    have this : isBl v[j] = false := this
    rw [this] at hb
    cases hb
end
end K

set_option Elab.async false
set_option linter.all false
set_option maxRecDepth 100000
set_option maxHeartbeats 400000
namespace K
open PySem DL PyProof.Rows
section
variable {os : List Int} {ws : List W3} {pl : Int} {p : List (Option Nat)}
def witB (x : Bv) (a b : Int) : Bool := match x with
  | some (.inr v) => decide (a ≤ v ∧ v ≤ b)
  | _ => false
theorem within_B (x : Bv) (a b : Int) (g : DL.G) : m_is_within [encB x, .int a, .int b] g = .ok (.bool (witB x a b)) g := by
  cases x with
  | none => simp [encB, m_is_within, b_is_within, isT, witB]
  | some y => cases y with
    | inl c => simp [encB, m_is_within, b_is_within, isT, witB]
    | inr z => exact within_dec z a b g
theorem good_other {v : List Bv} {r : Nat} (hr : r < os.length) (hz : os[r] ≠ pl) : goodB os ws pl v r = decide (v[r]?.getD none = none) := by
  unfold goodB optsP
  rw [List.getElem?_eq_getElem hr]
  rw [if_neg (show ¬ ((some os[r]).getD 0 = pl) from hz)]
  refine decide_eq_decide.mpr ⟨?_, fun h => ⟨none, List.mem_cons_self, h.symm⟩⟩
  rintro ⟨k, hk, e⟩
  rw [List.mem_singleton] at hk
  subst hk
  exact e.symm
theorem good_own {v : List Bv} {r : Nat} (hr : r < os.length) (hz : os[r] = pl) : goodB os ws pl v r = decide (∃ k ∈ chs ws r, v[r]?.getD none = some (.inr (k : Int))) := by
  unfold goodB optsP
  rw [List.getElem?_eq_getElem hr]
  rw [if_pos (show ((some os[r]).getD 0 = pl) from hz)]
  refine decide_eq_decide.mpr ⟨?_, ?_⟩
  · rintro ⟨k, hk, e⟩
    obtain ⟨j, hj, rfl⟩ := List.mem_map.mp hk
    exact ⟨j, hj, e.symm⟩
  · rintro ⟨k, hk, e⟩
    exact ⟨some k, List.mem_map.mpr ⟨k, hk, rfl⟩, e.symm⟩
noncomputable abbrev planQ : Sm := ifS (boolD (opD neD (opD ixD (opD ixD (varD 0) (constD (.int 0))) (varD 3)) (varD 1)))
  (ifS (boolD (unD notNoneD (opD ixD (varD 2) (varD 3))))
  (retS (constD (.bool false)))
  nextS)
  (ifS (orT (notT (truthD (callD 3 m_is_within (consD (opD ixD (varD 2) (varD 3)) (consD (constD (.int 0)) (consD (opD subD (unD lenD (opD ixD (varD 0) (constD (.int 1)))) (constD (.int 1))) nilD)))))) (boolD (opD neD (opD ixD (opD ixD (opD ixD (varD 0) (constD (.int 1))) (opD ixD (varD 2) (varD 3))) (constD (.int 0))) (varD 3))))
  (retS (constD (.bool false)))
  nextS)
theorem planQ_ok (V : Va os ws) {v : List Bv} (hl : v.length = os.length) {r : Nat} (hr : r < os.length) (g : DL.G) : planQ [.sh (encA os ws), .sh (.int pl), .sh (.tuple (v.map encB)), .sh (.int (r : Int))] g =
    if (!goodB os ws pl v r) = true then .rt (.bool false) g else .nx [.sh (encA os ws), .sh (.int pl), .sh (.tuple (v.map encB)), .sh (.int (r : Int))] g := by
  have e3 := ix_map PyData.int os r os[r] (List.getElem?_eq_getElem hr)
  have hv : v[r]? = some v[r] := List.getElem?_eq_getElem (by omega)
  have e2 := ix_map encB v r v[r] hv
  by_cases hz : os[r] = pl
  · rw [good_own hr hz, hv]
    show _ = if (!decide (∃ k ∈ chs ws r, v[r] = some (.inr (k : Int)))) = true then _ else _
    generalize v[r] = x at e2 ⊢
    have e5 := within_B x 0 ((ws.length : Int) - 1) g
    have bad : (!decide (∃ k ∈ chs ws r, x = some (.inr (k : Int)))) = true → witB x 0 ((ws.length : Int) - 1) = false → planQ [.sh (encA os ws), .sh (.int pl), .sh (.tuple (v.map encB)), .sh (.int (r : Int))] g = .rt (.bool false) g := fun h1 h2 => by
      rw [h2] at e5
      generalize encB x = X at e2 e5 ⊢
      generalize v.map encB = D at e2 ⊢
      unfold encA
      simp [neD, eqD, e3, hz, e2, e5]
    cases x with
    | none =>
      rw [if_pos (by simp)]
      exact bad (by simp) rfl
    | some y => cases y with
      | inl b =>
        rw [if_pos (by simp)]
        exact bad (by simp) rfl
      | inr z =>
        by_cases hw : (0 : Int) ≤ z ∧ z ≤ (ws.length : Int) - 1
        · obtain ⟨k, rfl⟩ : ∃ k : Nat, z = (k : Int) := ⟨z.toNat, by omega⟩
          have hk : k < ws.length := by omega
          have e4 := ix_map encW3 ws k ws[k] (List.getElem?_eq_getElem hk)
          replace e5 : m_is_within [.int (k : Int), .int 0, .int ((ws.length : Int) - 1)] g = .ok (.bool (decide ((0 : Int) ≤ (k : Int) ∧ (k : Int) ≤ (ws.length : Int) - 1))) g := e5
          rw [decide_eq_true hw] at e5
          have hc : (∃ j ∈ chs ws r, (some (.inr (k : Int)) : Bv) = some (.inr (j : Int))) ↔ ws[k].1 = r := by
            constructor
            · rintro ⟨j, hj, e⟩
              have : (k : Int) = (j : Int) := by injection e with e; injection e
              obtain rfl : k = j := by omega
              obtain ⟨w, w1, w2⟩ := chs_mem.mp hj
              rw [List.getElem?_eq_getElem hk] at w1
              injection w1 with w1
              rw [w1]; exact w2
            · intro e
              exact ⟨k, chs_mem.mpr ⟨_, List.getElem?_eq_getElem hk, e⟩, rfl⟩
          replace e2 : ixD (.tuple (v.map encB)) (.int (r : Int)) = some (.int (k : Int)) := e2
          generalize v.map encB = D at e2 ⊢
          by_cases hq : ws[k].1 = r
          · rw [decide_eq_true (hc.mpr hq)]
            unfold encA
            simp [neD, eqD, e3, hz, e2, e5, e4, encW3, hq]
          · rw [decide_eq_false fun z => hq (hc.mp z)]
            have hq' : ¬ ((ws[k].1 : Int) = (r : Int)) := by omega
            unfold encA
            simp [neD, eqD, e3, hz, e2, e5, e4, encW3, hq']
        · rw [if_pos]
          · refine bad ?_ (decide_eq_false hw)
            rw [decide_eq_false]
            · rfl
            · rintro ⟨j, hj, e⟩
              have : z = (j : Int) := by injection e with e; injection e
              obtain ⟨w, w1, w2⟩ := chs_mem.mp hj
              have := (List.getElem?_eq_some_iff.mp w1).1
              omega
          · rw [decide_eq_false]
            · rfl
            · rintro ⟨j, hj, e⟩
              have : z = (j : Int) := by injection e with e; injection e
              obtain ⟨w, w1, w2⟩ := chs_mem.mp hj
              have := (List.getElem?_eq_some_iff.mp w1).1
              omega
  · rw [good_other hr hz, hv]
    show _ = if (!decide (v[r] = none)) = true then _ else _
    generalize v[r] = x at e2 ⊢
    generalize v.map encB = D at e2 ⊢
    unfold encA
    cases x with
    | none =>
      replace e2 : ixD (.tuple D) (.int (r : Int)) = some .none := e2
      simp [neD, eqD, e3, hz, e2]
    | some y => cases y with
      | inl b =>
        replace e2 : ixD (.tuple D) (.int (r : Int)) = some (.bool b) := e2
        simp [neD, eqD, e3, hz, e2]
      | inr z =>
        replace e2 : ixD (.tuple D) (.int (r : Int)) = some (.int z) := e2
        simp [neD, eqD, e3, hz, e2]
theorem all_find {α : Type} (f : α → Bool) (l : List α) : (l.find? fun x => !f x) = none → l.all f = true := fun h => by
  rw [List.all_eq_true]
  intro x hx
  have := List.find?_eq_none.mp h x hx
  simpa using this
theorem isTuple_any (ds : List PyData) (k : Int) (g : DL.G) : m_is_tuple [.tuple ds, .int k] g = .ok (.bool (decide ((ds.length : Int) = k))) g := by
  by_cases h : (ds.length : Int) = k <;> simp [m_is_tuple, b_is_tuple, isT, eqD, h]
theorem isPlanOf_any (V : Va os ws) (v : List Bv) (g : DL.G) : m_is_plan_of [encA os ws, .int pl, .tuple (v.map encB)] g = .ok (.bool (okB os ws pl v)) g := by
  have n2 := V.n2
  have hb : ((os.length : Nat) : Int) ≤ 1000000 ∧ -1000000 ≤ ((os.length : Nat) : Int) := by omega
  have t := isTuple_any (v.map encB) (os.length : Int) g
  rw [List.length_map] at t
  have hbody : b_is_plan_of [.sh (encA os ws), .sh (.int pl), .sh (.tuple (v.map encB)), .no] g = .rt (.bool (okB os ws pl v)) g := by
    unfold b_is_plan_of
    by_cases hl : v.length = os.length
    · rw [decide_eq_true (by omega)] at t
      refine (seq_eq (ρ1 := [.sh (encA os ws), .sh (.int pl), .sh (.tuple (v.map encB)), .no]) (g1 := g) ((if_no (g1 := g) (by
        generalize v.map encB = D at t ⊢
        unfold encA
        simp [t])).trans rfl)).trans ?_
      have hfi : rangeD (unD lenD (opD ixD (varD 0) (constD (.int 0)))) [.sh (encA os ws), .sh (.int pl), .sh (.tuple (v.map encB)), .no] g = .ok ((List.range os.length).map fun k : Nat => PyData.int (0 + (k : Int))) g := by
        rw [← upFrom_map]
        generalize v.map encB = D
        unfold encA
        simp [hb, big]
      rcases forD_find (t := nameT 3) (body := planQ) (fun k : Nat => PyData.int (0 + (k : Int))) (fun ρ => ∃ x3, ρ = [.sh (encA os ws), .sh (.int pl), .sh (.tuple (v.map encB)), x3]) (fun r => !goodB os ws pl v r) (fun _ => .bool false) g (List.range os.length) (by
        rintro r hr ρ ⟨x3, rfl⟩
        have hr := List.mem_range.mp hr
        have q := planQ_ok (pl := pl) V hl hr g
        rw [show ((r : Nat) : Int) = 0 + (r : Int) by omega] at q
        exact ⟨_, _, rfl, ⟨_, rfl⟩, q⟩) [.sh (encA os ws), .sh (.int pl), .sh (.tuple (v.map encB)), .no] ⟨_, rfl⟩ with ⟨x, hx, h1⟩ | ⟨hx, ρ', ⟨x3, rfl⟩, h1⟩
      · have : okB os ws pl v = false := by
          unfold okB
          rw [find_some _ _ hx, Bool.and_false]
        rw [this]
        show seqS (forS _ _ planQ) _ _ _ = _
        have h2 : forS (rangeD (unD lenD (opD ixD (varD 0) (constD (.int 0))))) (nameT 3) planQ [.sh (encA os ws), .sh (.int pl), .sh (.tuple (v.map encB)), .no] g = .rt (.bool false) g := by
          unfold forS
          rw [hfi]
          exact h1
        generalize forS (rangeD (unD lenD (opD ixD (varD 0) (constD (.int 0))))) (nameT 3) planQ = F at h2 ⊢
        unfold seqS
        rw [h2]
      · have : okB os ws pl v = true := by
          unfold okB
          rw [all_find _ _ hx, decide_eq_true hl]
          rfl
        rw [this]
        exact (seq_eq (for_run (g1 := g) hfi h1)).trans rfl
    · rw [decide_eq_false (by omega)] at t
      have : okB os ws pl v = false := by
        unfold okB
        rw [decide_eq_false hl, Bool.false_and]
      rw [this]
      have h2 : ifS (notT (truthD (callD 2 m_is_tuple (consD (varD 2) (consD (unD lenD (opD ixD (varD 0) (constD (.int 0)))) nilD))))) (retS (constD (.bool false))) nextS [.sh (encA os ws), .sh (.int pl), .sh (.tuple (v.map encB)), .no] g = .rt (.bool false) g := by
        generalize v.map encB = D at t ⊢
        unfold encA
        simp [t]
      show seqS (ifS (notT (truthD (callD 2 m_is_tuple (consD (varD 2) (consD (unD lenD (opD ixD (varD 0) (constD (.int 0)))) nilD))))) (retS (constD (.bool false))) nextS) _ _ _ = _
      generalize ifS (notT (truthD (callD 2 m_is_tuple (consD (varD 2) (consD (unD lenD (opD ixD (varD 0) (constD (.int 0)))) nilD))))) (retS (constD (.bool false))) nextS = F at h2 ⊢
      unfold seqS
      rw [h2]
  unfold m_is_plan_of fnD
  show (match b_is_plan_of [.sh (encA os ws), .sh (.int pl), .sh (.tuple (v.map encB)), .no] g with | .nx _ g1 => R.ok PyData.none g1 | .rt d g1 => .ok d g1 | .ex k _ g1 => .ex k g1 | _ => .bad) = _
  rw [hbody]
theorem isPlan_by (V : Va os ws) (hp01 : pl = 0 ∨ pl = 1) {d : PyData} {b : Bool} {g : DL.G} (h : m_is_plan_of [encA os ws, .int pl, d] g = .ok (.bool b) g) : m_is_plan [encA os ws, .int pl, d] g = .ok (.bool b) g := by
  have hk := checkArena_ok V g
  have hw : m_is_within [.int pl, .int 0, .int 1] g = .ok (.bool true) g := within_ok (by rcases hp01 with rfl | rfl <;> omega) g
  have hcp : m_check_player [.int pl] g = .ok .none g := by simp [m_check_player, b_check_player, hw]
  generalize encA os ws = A at h hk ⊢
  simp [m_is_plan, b_is_plan, hk, hcp, h]
/-- what is no tuple -/
theorem isPlanOf_not (os : List Int) (ws : List W3) (pl : Int) {d : PyData} (g : DL.G) (hd : isT "tuple" d = false) : m_is_plan_of [encA os ws, .int pl, d] g = .ok (.bool false) g := by
  have h : m_is_tuple [d, .int (os.length : Int)] g = .ok (.bool false) g := by simp [m_is_tuple, b_is_tuple, hd]
  unfold encA
  simp [m_is_plan_of, b_is_plan_of, h]
end
end K

set_option Elab.async false
set_option linter.all false
set_option maxRecDepth 100000
set_option maxHeartbeats 400000
namespace K
open PySem DL PyProof.Rows
section
variable {os : List Int} {ws : List W3} {PP : List (Option Int)} {pl : Int} {p : List (Option Nat)}
abbrev P27 (os : List Int) (ws : List W3) (PP : List (Option Int)) (pl ps p ti va ri : Sl) (ro su as ta row k ot wo on be : Sl) : Nv := [.no, .dr, .sh (.int (os.length : Int)), .sh (encA os ws), .sh (.list (PP.map encV)), pl, .no, .no, .sh (.tuple (os.map PyData.int)), .sh (.tuple (ws.map encW3)), .sh (.list ((plansP os ws 0 os.length).map plD)), .sh (.list ((plansP os ws 1 os.length).map plD)), ro, ps, p, ti, va, su, as, ta, row, k, ri, ot, wo, on, be]
noncomputable abbrev rightX : Ex := andV (unD (isiD "tuple") (varD 16)) (andV (opD eqD (unD lenD (varD 16)) (varD 2)) (andV (opD eqD (unD lenD (shareO (lcO (itemsD (varD 16)) [25] (nameT 25) (truthD (unD (isiD "bool") (varD 25))) (varD 25)))) (constD (.int 0))) (opD inD (varD 16) (varD 13))))
theorem right_tup (v : List Bv) (hv : v.length ≤ 1000) (L : List (List (Option Nat))) (hL : (L.any fun p => decide (p.map toB = v)) = okB os ws pl v) (ρ : Nv) (g : DL.G) (h2 : ρ[2]? = some (.sh (.int (os.length : Int)))) (h13 : ρ[13]? = some (.sh (.list (L.map plD)))) (h16 : ρ[16]? = some (.sh (.tuple (v.map encB)))) (h25 : 25 < ρ.length) :
    rightX ρ g = .ok (.bool (okB os ws pl v)) g := by
  have c := compD_pure (t := nameT 25) (cond := truthD (unD (isiD "bool") (varD 25))) (elt := varD 25) encB isBl encB v (ρ.set 25 .no) g fun x _ => ⟨_, rfl, by
      have e : ((ρ.set 25 Sl.no).set 25 (.sh (encB x)))[25]? = some (.sh (encB x)) := List.getElem?_set_self (by rw [List.length_set]; exact h25)
      generalize (ρ.set 25 Sl.no).set 25 (.sh (encB x)) = ρ5 at e ⊢
      cases x with
      | none => simp [e, encB, isT, isBl]
      | some y => cases y <;> simp [e, encB, isT, isBl], fun _ => by
      have e : ((ρ.set 25 Sl.no).set 25 (.sh (encB x)))[25]? = some (.sh (encB x)) := List.getElem?_set_self (by rw [List.length_set]; exact h25)
      generalize (ρ.set 25 Sl.no).set 25 (.sh (encB x)) = ρ5 at e ⊢
      simp [e]⟩
  have hf : (v.filter isBl).length ≤ v.length := List.length_filter_le _ _
  have e1 : unD (isiD "tuple") (varD 16) ρ g = .ok (.bool true) g := by simp [h16, isT]
  have e2 : opD eqD (unD lenD (varD 16)) (varD 2) ρ g = .ok (.bool (decide ((v.length : Int) = (os.length : Int)))) g := by
    refine op_ok (un_ok (a := .tuple (v.map encB)) (d := .int (v.length : Int)) (by simp [h16]) (by simp)) (b := .int (os.length : Int)) (by simp [h2]) ?_
    rfl
  have e3 : opD eqD (unD lenD (shareO (lcO (itemsD (varD 16)) [25] (nameT 25) (truthD (unD (isiD "bool") (varD 25))) (varD 25)))) (constD (.int 0)) ρ g = .ok (.bool (decide (((v.filter isBl).length : Int) = 0))) g := by
    refine op_ok (un_ok (a := .list ((v.filter isBl).map encB)) (d := .int ((v.filter isBl).length : Int)) ?_ (by simp)) (b := .int 0) (by simp) rfl
    have hb : v.length ≤ 1000000 := by omega
    have hb2 : (v.filter isBl).length ≤ 1000000 := by omega
    generalize truthD (unD (isiD "bool") (varD 25)) = C at c ⊢
    simp [h16, hb, big, c, hb2]
  have e4 : (∀ x ∈ v, isBl x = false) → opD inD (varD 16) (varD 13) ρ g = .ok (.bool (okB os ws pl v)) g := fun h => op_ok (a := .tuple (v.map encB)) (b := .list (L.map plD)) (by simp [h16]) (by simp [h13]) (by rw [in_plans L v h, hL])
  unfold rightX
  generalize unD (isiD "tuple") (varD 16) = X1 at e1 ⊢
  generalize opD eqD (unD lenD (varD 16)) (varD 2) = X2 at e2 ⊢
  generalize opD eqD (unD lenD (shareO (lcO (itemsD (varD 16)) [25] (nameT 25) (truthD (unD (isiD "bool") (varD 25))) (varD 25)))) (constD (.int 0)) = X3 at e3 ⊢
  generalize opD inD (varD 16) (varD 13) = X4 at e4 ⊢
  by_cases hl : v.length = os.length
  · rw [decide_eq_true (by omega)] at e2
    by_cases hn : ∀ x ∈ v, isBl x = false
    · have e4 := e4 hn
      have : v.filter isBl = [] := List.filter_eq_nil_iff.mpr fun x hx => by rw [hn x hx]; simp
      rw [this] at e3
      replace e3 : X3 ρ g = .ok (.bool true) g := e3
      simp [e1, e2, e3, e4]
    · have hn : ∃ x, x ∈ v ∧ isBl x = true := by
        rcases Classical.em (∃ x, x ∈ v ∧ isBl x = true) with h | h
        · exact h
        · exact absurd (fun x hx => by
            cases e : isBl x with
            | false => rfl
            | true => exact absurd ⟨x, hx, e⟩ h) hn
      obtain ⟨x, hx, hb⟩ := hn
      have hm : x ∈ v.filter isBl := List.mem_filter.mpr ⟨hx, hb⟩
      have := List.length_pos_of_mem hm
      rw [decide_eq_false (by omega)] at e3
      rw [bl_not hx hb]
      simp [e1, e2, e3]
  · have h0 : okB os ws pl v = false := by
      unfold okB
      rw [decide_eq_false hl, Bool.false_and]
    rw [decide_eq_false (by omega)] at e2
    rw [h0]
    simp [e1, e2]
theorem right_not (d : PyData) (hd : isT "tuple" d = false) (ρ : Nv) (g : DL.G) (h16 : ρ[16]? = some (.sh d)) : rightX ρ g = .ok (.bool false) g := by
  have e1 : unD (isiD "tuple") (varD 16) ρ g = .ok (.bool false) g := by simp [h16, hd]
  unfold rightX
  generalize unD (isiD "tuple") (varD 16) = X1 at e1 ⊢
  simp [e1]
/-- what is tried as a plan -/
abbrev GoodV (d : PyData) : Prop := (∃ v : List Bv, d = .tuple (v.map encB) ∧ v.length ≤ 1000) ∨ isT "tuple" d = false
theorem set_ok {i : Nat} {e : Ex} {d : PyData} {ρ : Nv} {g g' : DL.G} (h : e ρ g = .ok d g') : setS i e ρ g = .nx (ρ.set i (.sh d)) g' := by
  unfold setS stE
  rw [h]
noncomputable abbrev tryB : Sm := seqS (setS 22 rightX)
  (ifS (notT (truthD (callD 2 m_law_equal (consD (callD 3 m_is_plan (consD (varD 3) (consD (varD 5) (consD (varD 16) nilD)))) (consD (varD 22) nilD)))))
  (retS (constD (.bool false)))
  nextS)
theorem try_ok (V : Va os ws) (hp01 : pl = 0 ∨ pl = 1) {d : PyData} (hd : GoodV d) (p ti ri ro su as ta row k ot wo on be : Sl) (g : DL.G) : ∃ b, tryB (P27 os ws PP (.sh (.int pl)) (.sh (.list ((plansP os ws pl os.length).map plD))) p ti (.sh d) ri ro su as ta row k ot wo on be) g = .nx (P27 os ws PP (.sh (.int pl)) (.sh (.list ((plansP os ws pl os.length).map plD))) p ti (.sh d) (.sh (.bool b)) ro su as ta row k ot wo on be) g := by
  obtain ⟨b, h1, h2⟩ : ∃ b, rightX (P27 os ws PP (.sh (.int pl)) (.sh (.list ((plansP os ws pl os.length).map plD))) p ti (.sh d) ri ro su as ta row k ot wo on be) g = .ok (.bool b) g ∧ m_is_plan [encA os ws, .int pl, d] g = .ok (.bool b) g := by
    rcases hd with ⟨v, rfl, hv⟩ | hd
    · exact ⟨okB os ws pl v, right_tup v hv (plansP os ws pl os.length) (ok_iff v) _ g rfl rfl rfl (by simp), isPlan_by V hp01 (isPlanOf_any V v g)⟩
    · exact ⟨false, right_not d hd _ g rfl, isPlan_by V hp01 (isPlanOf_not os ws pl g hd)⟩
  refine ⟨b, ?_⟩
  have q := equal_refl (d := .bool b) g (by trivial)
  refine (seq_eq (a := setS 22 rightX) (ρ1 := P27 os ws PP (.sh (.int pl)) (.sh (.list ((plansP os ws pl os.length).map plD))) p ti (.sh d) (.sh (.bool b)) ro su as ta row k ot wo on be) (g1 := g) ?_).trans ?_
  · exact (set_ok h1).trans rfl
  · refine (if_no (g1 := g) ?_).trans rfl
    unfold P27
    generalize (plansP os ws pl os.length).map plD = D1
    generalize (plansP os ws 0 os.length).map plD = D2
    generalize (plansP os ws 1 os.length).map plD = D3
    generalize encA os ws = A at h2 ⊢
    simp [h2, q]
end
end K

set_option Elab.async false
set_option linter.all false
set_option maxRecDepth 100000
set_option maxHeartbeats 400000
namespace K
open PySem DL PyProof.Rows
section
variable {os : List Int} {ws : List W3} {PP : List (Option Int)} {pl : Int} {p : List (Option Nat)}
theorem fill_one (d : PyData) (n : Nat) : (List.replicate n [d]).flatten = List.replicate n d := by
  induction n with
  | zero => rfl
  | succ n ih => rw [List.replicate_succ, List.flatten_cons, ih]; rfl
theorem mul_list (d : PyData) (n : Nat) (hn : n ≤ 1000) : mulD (.list [d]) (.int (n : Int)) = some (.list (List.replicate n d)) := by
  show (if -1000000 ≤ (n : Int) ∧ (n : Int) ≤ 1000000 ∧ [d].length * ((n : Int)).toNat ≤ big then some (PyData.list (List.replicate ((n : Int)).toNat [d]).flatten) else none) = _
  rw [if_pos ⟨by omega, by omega, by show 1 * ((n : Int)).toNat ≤ 1000000; omega⟩, show ((n : Int)).toNat = n by omega, fill_one]
theorem mul_tup (d : PyData) (n : Nat) (h1 : 1 ≤ n) (hn : n ≤ 1000) : mulD (.tuple [d]) (.int (n : Int)) = some (.tuple (List.replicate n d)) := by
  show (if (n : Int) = 1 then some (PyData.tuple [d]) else if [d] ≠ [] ∧ 2 ≤ (n : Int) ∧ (n : Int) ≤ 1000 ∧ [d].length ≤ 1000 then some (PyData.tuple (List.replicate ((n : Int)).toNat [d]).flatten) else none) = _
  by_cases h : n = 1
  · subst h; rfl
  · rw [if_neg (by omega), if_pos ⟨by simp, by omega, by omega, by show 1 ≤ 1000; omega⟩, show ((n : Int)).toNat = n by omega, fill_one]
theorem mul_ex {e1 e2 : Ex} {d : PyData} {n : Nat} {ρ : Nv} {g : DL.G} (h1 : e1 ρ g = .ok (.list [d]) g) (h2 : e2 ρ g = .ok (.int (n : Int)) g) (hn : n ≤ 1000) : opD mulD e1 e2 ρ g = .ok (.list (List.replicate n d)) g := op_ok h1 h2 (mul_list d n hn)
def turnB (k : Option Nat) : Bv := if k = some 1 then some (.inl true) else toB k
noncomputable abbrev triedO : Ow := lstO (consD (varD 14) (consD (slD (varD 14) (somePart (constD (.int 1))) noPart) (consD (opD addD (varD 14) (tupD (consD (constD .none) nilD))) (consD (unD listD (varD 14)) (consD (constD .none) (consD (unD tupleD (opD mulD (shareO (lstO (consD (constD .none) nilD))) (varD 2))) (consD (unD tupleD (opD mulD (shareO (lstO (consD (unD lenD (varD 9)) nilD))) (varD 2))) (consD (unD tupleD (opD mulD (shareO (lstO (consD (constD (.int 0)) nilD))) (varD 2))) (consD (unD tupleD (shareO (lcO (itemsD (varD 14)) [25] (nameT 25) yesT (ifD (boolD (opD eqD (varD 25) (constD (.int 1)))) (constD (.bool true)) (varD 25))))) nilD)))))))))
theorem rep_B (n : Nat) (x : Bv) : List.replicate n (encB x) = (List.replicate n x).map encB := by rw [List.map_replicate]
theorem tried_ok (V : Va os ws) (hp : p.length = os.length) (pl ps ti va ri ro su as ta row k ot wo on be : Sl) (g : DL.G) : ∃ T : List PyData, (∀ d ∈ T, GoodV d) ∧ triedO (P27 os ws PP pl ps (.sh (plD p)) ti va ri ro su as ta row k ot wo on be) g = .ok (.lst T) g := by
  have n2 := V.n2
  obtain ⟨q, c1, l1, _⟩ := cut_map encK p (some 1) none
  have good : ∀ v : List Bv, v.length ≤ 1000 → GoodV (.tuple (v.map encB)) := fun v h => .inl ⟨v, rfl, h⟩
  have goodP : ∀ q : List (Option Nat), q.length ≤ 1000 → GoodV (.tuple (q.map encK)) := fun q h => by
    rw [← map_toB]
    exact good _ (by rw [List.length_map]; exact h)
  have rep : ∀ x : Bv, GoodV (.tuple (List.replicate os.length (encB x))) := fun x => by
    rw [rep_B]
    exact good _ (by rw [List.length_replicate]; omega)
  refine ⟨[plD p, plD q, plD (p ++ [none]), .list (p.map encK), .none, .tuple (List.replicate os.length (encB none)), .tuple (List.replicate os.length (encB (some (.inr (ws.length : Int))))), .tuple (List.replicate os.length (encB (some (.inr 0)))), .tuple ((p.map turnB).map encB)], fun d hd => ?_, ?_⟩
  · simp only [List.mem_cons, List.not_mem_nil, or_false] at hd
    rcases hd with rfl | rfl | rfl | rfl | rfl | rfl | rfl | rfl | rfl
    · exact goodP p (by omega)
    · exact goodP q (by omega)
    · exact goodP _ (by rw [List.length_append]; show p.length + 1 ≤ _; omega)
    · exact .inr rfl
    · exact .inr rfl
    · exact rep none
    · exact rep _
    · exact rep _
    · exact good _ (by rw [List.length_map]; omega)
  · have hn1 : os.length ≤ 1000 := by omega
    generalize hρ : P27 os ws PP pl ps (.sh (plD p)) ti va ri ro su as ta row k ot wo on be = ρ
    have v14 : varD 14 ρ g = .ok (plD p) g := by rw [← hρ]; rfl
    have v2 : varD 2 ρ g = .ok (.int (os.length : Int)) g := by rw [← hρ]; rfl
    have v9 : varD 9 ρ g = .ok (.tuple (ws.map encW3)) g := by rw [← hρ]; rfl
    have h25 : 25 < ρ.length := by rw [← hρ]; simp
    have e1 : slD (varD 14) (somePart (constD (.int 1))) noPart ρ g = .ok (plD q) g := by
      show _ = DL.R.ok (PyData.tuple (q.map encK)) g
      rw [← c1]
      generalize varD 14 = X at v14 ⊢
      simp [v14]
    have e2 : opD addD (varD 14) (tupD (consD (constD .none) nilD)) ρ g = .ok (plD (p ++ [none])) g := op_ok v14 (tup_ok (ds := [.none]) rfl (by decide)) (add_plan (by omega) none)
    have e3 : unD listD (varD 14) ρ g = .ok (.list (p.map encK)) g := un_ok v14 rfl
    have e5 : unD tupleD (opD mulD (shareO (lstO (consD (constD .none) nilD))) (varD 2)) ρ g = .ok (.tuple (List.replicate os.length (encB none))) g := un_ok (mul_ex (d := encB none) (e1 := shareO (lstO (consD (constD .none) nilD))) rfl v2 hn1) rfl
    have l9 : unD lenD (varD 9) ρ g = .ok (encB (some (.inr (ws.length : Int)))) g := un_ok v9 (by simp [encB])
    have e6 : unD tupleD (opD mulD (shareO (lstO (consD (unD lenD (varD 9)) nilD))) (varD 2)) ρ g = .ok (.tuple (List.replicate os.length (encB (some (.inr (ws.length : Int)))))) g := un_ok (mul_ex (d := encB (some (.inr (ws.length : Int)))) (e1 := shareO (lstO (consD (unD lenD (varD 9)) nilD))) (by
      generalize unD lenD (varD 9) = X at l9 ⊢
      generalize encB (some (.inr (ws.length : Int))) = Y at l9 ⊢
      simp [l9]) v2 hn1) rfl
    have e7 : unD tupleD (opD mulD (shareO (lstO (consD (constD (.int 0)) nilD))) (varD 2)) ρ g = .ok (.tuple (List.replicate os.length (encB (some (.inr 0))))) g := un_ok (mul_ex (d := encB (some (.inr 0))) (e1 := shareO (lstO (consD (constD (.int 0)) nilD))) rfl v2 hn1) rfl
    have c8 := comp_pure (fi := itemsD (varD 14)) (j := 25) (e := ifD (boolD (opD eqD (varD 25) (constD (.int 1)))) (constD (.bool true)) (varD 25)) encK (fun k => encB (turnB k)) p (ρ := ρ) (g := g) (by
      generalize varD 14 = X at v14 ⊢
      simp [v14]) (by omega) fun x _ => by
        have e : ((ρ.set 25 Sl.no).set 25 (.sh (encK x)))[25]? = some (.sh (encK x)) := List.getElem?_set_self (by rw [List.length_set]; exact h25)
        generalize (ρ.set 25 Sl.no).set 25 (.sh (encK x)) = ρ5 at e ⊢
        cases x with
        | none => simp [e, encK, eqD, turnB, toB, encB]
        | some j =>
          by_cases hj : j = 1
          · subst hj
            simp [e, encK, eqD, turnB, encB]
          · have : ¬ ((j : Int) = 1) := by omega
            simp [e, encK, eqD, turnB, toB, encB, hj, this]
    have e8 : unD tupleD (shareO (lcO (itemsD (varD 14)) [25] (nameT 25) yesT (ifD (boolD (opD eqD (varD 25) (constD (.int 1)))) (constD (.bool true)) (varD 25)))) ρ g = .ok (.tuple ((p.map turnB).map encB)) g := un_ok c8 (by rw [List.map_map]; rfl)
    have all := cons_ok v14 (cons_ok e1 (cons_ok e2 (cons_ok e3 (cons_ok (e := constD .none) (d := .none) rfl (cons_ok e5 (cons_ok e6 (cons_ok e7 (cons_ok e8 (es := nilD) (ds := []) rfl))))))))
    unfold triedO
    generalize consD (varD 14) _ = Es at all ⊢
    generalize (p.map turnB).map encB = Z1 at all ⊢
    generalize List.replicate os.length (encB none) = Z2 at all ⊢
    generalize List.replicate os.length (encB (some (.inr (ws.length : Int)))) = Z3 at all ⊢
    generalize List.replicate os.length (encB (some (.inr 0))) = Z4 at all ⊢
    simp [all]
noncomputable abbrev playB : Sm := seqS (setS 13 (ifD (boolD (opD eqD (varD 5) (constD (.int 0)))) (varD 10) (varD 11)))
  (seqS (setS 14 (opD ixD (varD 13) (opD modD (callG 1 1 m_law_draw nilD) (unD lenD (varD 13)))))
  (seqS (setS 15 (shareO triedO))
  (seqS (forS (itemsD (varD 15)) (nameT 16) tryB)
  (ifS (notT (truthD (callD 2 m_law_equal (consD (callD 3 m_starts_by (consD (varD 3) (consD (varD 5) (consD (varD 14) nilD)))) (consD (callD 2 m_law_prices (consD (varD 8) (consD (callD 3 m_law_kept (consD (varD 8) (consD (varD 9) (consD (varD 14) nilD)))) nilD))) nilD)))))
  (retS (constD (.bool false)))
  nextS))))
theorem play_ok {ms : List Int} {g : DL.G} (hg : Dr ms g) (V : Va os ws) (hp01 : pl = 0 ∨ pl = 1) (hf : (plansP os ws pl os.length).length ≤ 3000) (hne : plansP os ws pl os.length ≠ []) (ps p ti va ri ro su as ta row k ot wo on be : Sl) :
    ∃ g' ps' p' ti' va' ri', Dr ms g' ∧ playB (P27 os ws PP (.sh (.int pl)) ps p ti va ri ro su as ta row k ot wo on be) g = .nx (P27 os ws PP (.sh (.int pl)) ps' p' ti' va' ri' ro su as ta row k ot wo on be) g' := by
  obtain ⟨F, hF⟩ := plan_prices V pl
  have n2 := V.n2
  have hpos : 0 < (plansP os ws pl os.length).length := List.length_pos_iff.mpr hne
  obtain ⟨d, g1, d0, d1, hd, hg1⟩ := drawM hg (n := ((plansP os ws pl os.length).length : Int)) (by omega)
  obtain ⟨j, hj⟩ : ∃ j : Nat, d % ((plansP os ws pl os.length).length : Int) = (j : Int) := ⟨(d % ((plansP os ws pl os.length).length : Int)).toNat, by omega⟩
  have hjl : j < (plansP os ws pl os.length).length := by omega
  obtain ⟨p0, hp0⟩ : ∃ p0, (plansP os ws pl os.length)[j]? = some p0 := ⟨_, List.getElem?_eq_getElem hjl⟩
  have hmem : p0 ∈ plansP os ws pl os.length := List.mem_of_getElem? hp0
  have hl0 := plan_len os.length p0 hmem
  obtain ⟨f1, f2, f3, f4⟩ := hF p0 hmem
  obtain ⟨T, hT, hT2⟩ := tried_ok (PP := PP) V hl0 (.sh (.int pl)) (.sh (.list ((plansP os ws pl os.length).map plD))) ti va ri ro su as ta row k ot wo on be g1
  obtain ⟨ρ', g', h1, hg', va', ri', rfl⟩ := forD_all (t := nameT 16) (body := tryB) id (fun _ ρ g' => g' = g1 ∧ ∃ va' ri', ρ = P27 os ws PP (.sh (.int pl)) (.sh (.list ((plansP os ws pl os.length).map plD))) (.sh (plD p0)) (.sh (.list T)) va' ri' ro su as ta row k ot wo on be) T (by
    rintro pre d post e ρ g' ⟨e', va', ri', rfl⟩
    obtain ⟨b, h⟩ := try_ok (PP := PP) V hp01 (hT d (by rw [e]; simp)) (.sh (plD p0)) (.sh (.list T)) ri' ro su as ta row k ot wo on be g'
    exact ⟨_, _, g', rfl, .inl h, e', _, _, rfl⟩) (g := g1) (ρ := P27 os ws PP (.sh (.int pl)) (.sh (.list ((plansP os ws pl os.length).map plD))) (.sh (plD p0)) (.sh (.list T)) va ri ro su as ta row k ot wo on be) ⟨rfl, _, _, rfl⟩
  rw [hg', List.map_id] at h1
  refine ⟨g1, .sh (.list ((plansP os ws pl os.length).map plD)), .sh (plD p0), .sh (.list T), va', ri', hg1, ?_⟩
  unfold playB
  refine (seq_eq (ρ1 := P27 os ws PP (.sh (.int pl)) (.sh (.list ((plansP os ws pl os.length).map plD))) p ti va ri ro su as ta row k ot wo on be) (g1 := g) ?_).trans ?_
  · refine (set_ok (d := .list ((plansP os ws pl os.length).map plD)) ?_).trans rfl
    rcases hp01 with rfl | rfl <;> rfl
  refine (seq_eq (ρ1 := P27 os ws PP (.sh (.int pl)) (.sh (.list ((plansP os ws pl os.length).map plD))) (.sh (plD p0)) ti va ri ro su as ta row k ot wo on be) (g1 := g1) ?_).trans ?_
  · refine (set_ok (d := plD p0) (g' := g1) ?_).trans rfl
    have e9 := ix_mapl plD (plansP os ws pl os.length) j p0 hp0
    have m9 : modD (.int d) (.int ((plansP os ws pl os.length).length : Int)) = some (.int (j : Int)) := by rw [md (by omega), hj]
    have l9 : lenD (.list ((plansP os ws pl os.length).map plD)) = some (.int ((plansP os ws pl os.length).length : Int)) := by simp
    generalize hρ : P27 os ws PP (.sh (.int pl)) (.sh (.list ((plansP os ws pl os.length).map plD))) p ti va ri ro su as ta row k ot wo on be = ρ
    have v13 : ∀ g, varD 13 ρ g = .ok (.list ((plansP os ws pl os.length).map plD)) g := fun g => by rw [← hρ]; rfl
    have v1 : ρ[1]? = some .dr := by rw [← hρ]; rfl
    generalize (plansP os ws pl os.length).map plD = D at e9 l9 v13
    generalize ((plansP os ws pl os.length).length : Int) = c at m9 l9
    generalize plD p0 = Q at e9 ⊢
    generalize varD 13 = X at v13 ⊢
    generalize modD = M at m9 ⊢
    generalize lenD = Ln at l9 ⊢
    simp [v13, l9, v1, hd, m9, e9]
  refine (seq_eq (ρ1 := P27 os ws PP (.sh (.int pl)) (.sh (.list ((plansP os ws pl os.length).map plD))) (.sh (plD p0)) (.sh (.list T)) va ri ro su as ta row k ot wo on be) (g1 := g1) ?_).trans ?_
  · refine (set_ok (d := .list T) ?_).trans rfl
    generalize triedO = Q at hT2 ⊢
    unfold shareO
    rw [hT2]
    rfl
  refine (seq_eq (for_run (g1 := g1) rfl h1)).trans ?_
  refine (if_no (g1 := g1) ?_).trans rfl
  have s1 := startsBy_ok V hp01 hmem f4 g1
  have s2 := lawKept_ok V hl0 g1
  have s3 := f3 g1
  have s4 : m_law_equal [rowD (F p0), rowD (F p0)] g1 = .ok (.bool true) g1 := equal_refl g1 (nar_V (F p0) (by omega))
  simp only [owD, wyD] at s2 s3
  unfold P27
  generalize rowD (F p0) = R0 at s1 s3 s4
  generalize (keptL ws p0).map encW3 = Z at s2 s3
  generalize (plansP os ws pl os.length).map plD = D1
  generalize (plansP os ws 0 os.length).map plD = D2
  generalize (plansP os ws 1 os.length).map plD = D3
  generalize encA os ws = A at s1 ⊢
  generalize plD p0 = Q at s1 s2 ⊢
  simp [s1, s2, s3, s4]
end
end K

set_option Elab.async false
set_option linter.all false
set_option maxRecDepth 100000
set_option maxHeartbeats 400000
namespace K
open PySem DL PyProof.Rows
section
variable {os : List Int} {ws : List W3}
/-! ### what is refused -/
abbrev strD (s : String) : PyData := .str (PySem.Str.ofString s)
theorem refused_least {A d : PyData} {g : DL.G} (h : m_check_arena [A] g = .ex 0 g) : m_law_refused [strD "least", A, d] g = .ok (strD "arena") g := by
  have e : eqD (strD "least") (strD "least") = some (.bool true) := by simp [eqD]
  have h2 : m_least_starts [A] g = .ex 0 g := by simp [m_least_starts, b_least_starts, h]
  simp only [strD] at e ⊢
  simp [m_law_refused, b_law_refused, e, h2, noEx]
theorem refused_plan (V : Va os ws) {d : PyData} {g : DL.G} (h : m_check_player [d] g = .ex 1 g) : m_law_refused [strD "plan", encA os ws, d] g = .ok (strD "argument") g := by
  have e : eqD (strD "plan") (strD "least") = some (.bool false) := by rfl
  have hk := checkArena_ok V g
  have h2 : m_is_plan [encA os ws, d, .none] g = .ex 1 g := by
    generalize encA os ws = A at hk ⊢
    simp [m_is_plan, b_is_plan, hk, h]
  generalize encA os ws = A at h2 ⊢
  simp only [strD] at e ⊢
  simp [m_law_refused, b_law_refused, e, h2, noEx]
theorem bad_player (g : DL.G) : ∀ d ∈ ([.int 2, .int (-1), .bool true, .none] : List PyData), m_check_player [d] g = .ex 1 g := by
  intro d hd
  simp only [List.mem_cons, List.not_mem_nil, or_false] at hd
  rcases hd with rfl | rfl | rfl | rfl <;> simp [m_check_player, b_check_player, m_is_within, b_is_within, isT]
theorem check_own {O W : PyData} {g : DL.G} (h : m_are_owners [O, .int 8] g = .ok (.bool false) g) : m_check_arena [.tuple [O, W]] g = .ex 0 g := by
  have t := tuple_ok [O, W] 2 rfl g
  simp [m_check_arena, b_check_arena, t, h]
theorem check_nt {O W : PyData} {g : DL.G} (h : m_are_owners [O, .int 8] g = .ok (.bool true) g) (hW : isT "tuple" W = false) : m_check_arena [.tuple [O, W]] g = .ex 0 g := by
  have t := tuple_ok [O, W] 2 rfl g
  simp [m_check_arena, b_check_arena, t, h, hW]
theorem check_len {O : PyData} {ds : List PyData} {g : DL.G} (h : m_are_owners [O, .int 8] g = .ok (.bool true) g) (hl : ds = [] ∨ 24 < ds.length) : m_check_arena [.tuple [O, .tuple ds]] g = .ex 0 g := by
  have t := tuple_ok [O, .tuple ds] 2 rfl g
  rcases hl with rfl | hl
  · simp [m_check_arena, b_check_arena, t, h, isT]
  · have b1 : (1 : Int) ≤ (ds.length : Int) := by omega
    have b2 : ¬ ((ds.length : Int) ≤ 24) := by omega
    simp [m_check_arena, b_check_arena, t, h, isT, b1, b2]
theorem check_way (V : Va os ws) (hw : ws.length ≤ 20) {bad : PyData} {g : DL.G} (hb : m_is_way [bad, .int (os.length : Int)] g = .ok (.bool false) g) : m_check_arena [.tuple [.tuple (os.map PyData.int), .tuple (ws.map encW3 ++ [bad])]] g = .ex 0 g := by
  have t := tuple_ok [.tuple (os.map PyData.int), .tuple (ws.map encW3 ++ [bad])] 2 rfl g
  have ow := owners_ok V g
  have l1 := V.l1
  let enc : Option W3 → PyData := fun x => match x with
    | none => bad
    | some w => encW3 w
  have e : ws.map encW3 ++ [bad] = (ws.map some ++ [none]).map enc := by
    rw [List.map_append, List.map_map]
    rfl
  have hll : (ws.map encW3 ++ [bad]).length = ws.length + 1 := by rw [List.length_append, List.length_map]; rfl
  have c := compD_pure (t := nameT 1) (cond := notT (truthD (callD 2 m_is_way (consD (varD 1) (consD (unD lenD (opD ixD (varD 0) (constD (.int 0)))) nilD))))) (elt := varD 1) enc Option.isNone enc (ws.map some ++ [none]) [.sh (.tuple [.tuple (os.map PyData.int), .tuple (ws.map encW3 ++ [bad])]), .no, .no] g fun x hx => ⟨_, rfl, by
    cases x with
    | none =>
      show notT (truthD (callD 2 m_is_way (consD (varD 1) (consD (unD lenD (opD ixD (varD 0) (constD (.int 0)))) nilD)))) [.sh (.tuple [.tuple (os.map PyData.int), .tuple (ws.map encW3 ++ [bad])]), .sh bad, .no] g = .ok true g
      simp [hb]
    | some w =>
      have hw : w ∈ ws := by
        rcases List.mem_append.mp hx with h | h
        · obtain ⟨w', h1, h2⟩ := List.mem_map.mp h
          injection h2 with h2
          rw [← h2]; exact h1
        · rw [List.mem_singleton] at h
          cases h
      show notT (truthD (callD 2 m_is_way (consD (varD 1) (consD (unD lenD (opD ixD (varD 0) (constD (.int 0)))) nilD)))) [.sh (.tuple [.tuple (os.map PyData.int), .tuple (ws.map encW3 ++ [bad])]), .sh (encW3 w), .no] g = .ok false g
      simp [way_ok V hw], fun _ => by
    show varD 1 [.sh (.tuple [.tuple (os.map PyData.int), .tuple (ws.map encW3 ++ [bad])]), .sh (enc x), .no] g = _
    simp⟩
  rw [← e] at c
  have hf : (ws.map some ++ [(none : Option W3)]).filter Option.isNone = [none] := by
    rw [List.filter_append, List.filter_eq_nil_iff.mpr fun x hx => by
      obtain ⟨w, _, rfl⟩ := List.mem_map.mp hx
      simp]
    rfl
  rw [hf] at c
  replace c : _ = R.ok [bad] g := c
  have b1 : (1 : Int) ≤ ((ws.map encW3 ++ [bad]).length : Int) := by omega
  have b2 : ((ws.map encW3 ++ [bad]).length : Int) ≤ 24 := by omega
  have b3 : (ws.map encW3 ++ [bad]).length ≤ 1000000 := by omega
  generalize ws.map encW3 ++ [bad] = D at t c b1 b2 b3 ⊢
  unfold m_check_arena b_check_arena
  generalize (notT (truthD (callD 2 m_is_way (consD (varD 1) (consD (unD lenD (opD ixD (varD 0) (constD (.int 0)))) nilD))))) = C at c ⊢
  simp [t, ow, isT, b1, b2, b3, big, c]
theorem own_more (V : Va os ws) (h7 : os.length ≤ 7) (g : DL.G) : m_are_owners [.tuple (os.map PyData.int ++ [.int 2]), .int 8] g = .ok (.bool false) g := by
  have n1 := V.n1
  have e : os.map PyData.int ++ [.int 2] = (os ++ [2]).map PyData.int := by rw [List.map_append]; rfl
  rw [e]
  have c := compD_pure (t := nameT 2) (cond := notT (truthD (callD 3 m_is_within (consD (varD 2) (consD (constD (.int 0)) (consD (constD (.int 1)) nilD)))))) (elt := varD 2) PyData.int (fun x => !decide ((0 : Int) ≤ x ∧ x ≤ 1)) PyData.int (os ++ [2]) [.sh (.tuple ((os ++ [2]).map PyData.int)), .sh (.int 8), .no] g fun x _ => ⟨_, rfl, by
    have := within_dec x 0 1 g
    generalize decide ((0 : Int) ≤ x ∧ x ≤ 1) = b at this ⊢
    simp [this], fun _ => by simp⟩
  have hf : (os ++ [2]).filter (fun x => !decide ((0 : Int) ≤ x ∧ x ≤ 1)) = [2] := by
    rw [List.filter_append, List.filter_eq_nil_iff.mpr fun x hx => by
      rcases V.o x hx with rfl | rfl <;> simp]
    rfl
  rw [hf] at c
  have hll : (os ++ [2]).length = os.length + 1 := by rw [List.length_append]; rfl
  have b1 : (1 : Int) ≤ ((os ++ [2]).length : Int) := by omega
  have b2 : ((os ++ [2]).length : Int) ≤ 8 := by omega
  have b3 : (os ++ [2]).length ≤ 1000000 := by omega
  have q : eqD (.list [.int 2]) (.list []) = some (.bool false) := by rfl
  replace c : _ = R.ok [PyData.int 2] g := c
  have hm : ((os ++ [2]).map PyData.int).length = (os ++ [2]).length := List.length_map _
  rw [← hm] at b1 b2 b3
  generalize (os ++ [2]).map PyData.int = D at c b1 b2 b3 ⊢
  unfold m_are_owners b_are_owners
  generalize (notT (truthD (callD 3 m_is_within (consD (varD 2) (consD (constD (.int 0)) (consD (constD (.int 1)) nilD)))))) = C at c ⊢
  simp [isT, b1, b2, b3, big, c, q]
end
end K

set_option Elab.async false
set_option linter.all false
set_option maxRecDepth 100000
set_option maxHeartbeats 400000
namespace K
open PySem DL PyProof.Rows
section
variable {os : List Int} {ws : List W3} {PP : List (Option Int)}
abbrev Z27 (s2 s3 s4 s5 s6 s7 s8 s9 s10 s11 s12 s13 s14 s15 s16 s17 s18 s19 s20 s21 s22 s23 s24 s25 s26 : Sl) : Nv := [.no, .dr, s2, s3, s4, s5, s6, s7, s8, s9, s10, s11, s12, s13, s14, s15, s16, s17, s18, s19, s20, s21, s22, s23, s24, s25, s26]
def ways9 : List PyData := (List.range 9).map fun k : Nat => .tuple [.int (k : Int), .int (k : Int), .int 0]
def wrongL (os : List Int) (ws : List W3) : List PyData := [.none, .tuple [owD os, .tuple []], .tuple [.tuple [], .tuple []], .tuple [.tuple (os.map PyData.int ++ [.int 2]), wyD ws], .tuple [owD os, .tuple (ws.map encW3 ++ [.tuple [.int 0, .int (os.length : Int), .int 0]])], .tuple [owD os, .tuple (ws.map encW3 ++ [.tuple [.int 0, .int 0, .int 9]])]]
def wrongN (ws : List W3) : PyData := .tuple [.tuple (List.replicate 9 (.int 0)), .tuple ways9]
def wrongM (os : List Int) (ws : List W3) : List PyData := [.tuple [owD os, .list (ws.map encW3)], .tuple [.tuple [.int 0, .int 0], .tuple [.tuple [.int 0, .int 1, .int 0]]], .tuple [owD os, .tuple (ws.map encW3 ++ [.tuple [.int 0, .int 0]])]]
theorem wrong_all (V : Va os ws) (h5 : os.length ≤ 5) (hw : ws.length ≤ 20) (g : DL.G) : ∀ d ∈ (wrongL os ws ++ [wrongN ws]) ++ wrongM os ws, m_check_arena [d] g = .ex 0 g := by
  have n1 := V.n1
  have ow := owners_ok V g
  have t3 := fun a b c : PyData => tuple_ok [a, b, c] 3 rfl g
  have w1 : m_is_way [.tuple [.int 0, .int (os.length : Int), .int 0], .int (os.length : Int)] g = .ok (.bool false) g := by
    have a := within_ok (v := 0) (a := -8) (b := 8) ⟨by omega, by omega⟩ g
    have b := within_ok (v := 0) (a := 0) (b := (os.length : Int) - 1) ⟨by omega, by omega⟩ g
    have c := within_dec (os.length : Int) 0 ((os.length : Int) - 1) g
    rw [decide_eq_false (by omega)] at c
    simp [m_is_way, b_is_way, t3, a, b, c]
  have w2 : m_is_way [.tuple [.int 0, .int 0, .int 9], .int (os.length : Int)] g = .ok (.bool false) g := by
    have a := within_dec 9 (-8) 8 g
    rw [decide_eq_false (by omega)] at a
    simp [m_is_way, b_is_way, t3, a]
  have w3 : m_is_way [.tuple [.int 0, .int 0], .int (os.length : Int)] g = .ok (.bool false) g := by
    have t2 := isTuple_any [.int 0, .int 0] 3 g
    replace t2 : m_is_tuple [.tuple [.int 0, .int 0], .int 3] g = .ok (.bool false) g := t2
    simp [m_is_way, b_is_way, t2]
  intro d hd
  simp only [wrongL, wrongM, List.mem_append, List.mem_cons, List.not_mem_nil, or_false] at hd
  rcases hd with ((rfl | rfl | rfl | rfl | rfl | rfl) | rfl) | rfl | rfl | rfl
  · rfl
  · exact check_len ow (.inl rfl)
  · rfl
  · exact check_own (own_more V (by omega) g)
  · exact check_way V hw w1
  · exact check_way V hw w2
  · exact check_own rfl
  · exact check_nt ow rfl
  · rfl
  · exact check_way V hw w3
theorem addT (a b : List PyData) (h : a.length + b.length ≤ 1000000) : addD (.tuple a) (.tuple b) = some (.tuple (a ++ b)) := by
  exact if_pos h
theorem addL (a b : List PyData) (h : a.length + b.length ≤ 1000000) : addD (.list a) (.list b) = some (.list (a ++ b)) := by
  exact if_pos h
theorem lst_ok {es : Ar} {ds : List PyData} {ρ : Nv} {g : DL.G} (h : es ρ g = .ok ds g) (hl : ds.length ≤ 1000) : lstO es ρ g = .ok (.lst ds) g := by
  simp [h, hl]
theorem share_ok {f : Ow} {ds : List PyData} {ρ : Nv} {g : DL.G} (h : f ρ g = .ok (.lst ds) g) : shareO f ρ g = .ok (.list ds) g := by
  simp [h]
end
end K

set_option Elab.async false
set_option linter.all false
set_option maxRecDepth 100000
set_option maxHeartbeats 400000
namespace K
open PySem DL PyProof.Rows
section
variable {os : List Int} {ws : List W3} {PP : List (Option Int)}
/-- the wrong ones, as they are made -/
theorem wrongs_made (V : Va os ws) (h5 : os.length ≤ 5) (hw : ws.length ≤ 20) (ρ : Nv) (g : DL.G) (v2 : varD 2 ρ g = .ok (.int (os.length : Int)) g) (v8 : varD 8 ρ g = .ok (owD os) g) (v9 : varD 9 ρ g = .ok (wyD ws) g) (h21 : 21 < ρ.length) :
    setOS 6 (lstO (consD (constD .none) (consD (tupD (consD (varD 8) (consD (tupD nilD) nilD))) (consD (tupD (consD (tupD nilD) (consD (tupD nilD) nilD))) (consD (tupD (consD (opD addD (varD 8) (tupD (consD (constD (.int 2)) nilD))) (consD (varD 9) nilD))) (consD (tupD (consD (varD 8) (consD (opD addD (varD 9) (tupD (consD (tupD (consD (constD (.int 0)) (consD (varD 2) (consD (constD (.int 0)) nilD)))) nilD))) nilD))) (consD (tupD (consD (varD 8) (consD (opD addD (varD 9) (tupD (consD (tupD (consD (constD (.int 0)) (consD (constD (.int 0)) (consD (constD (.int 9)) nilD)))) nilD))) nilD))) nilD))))))) ρ g = .nx (ρ.set 6 (.ow (.lst (wrongL os ws)))) g ∧
    tupD (consD (opD mulD (tupD (consD (constD (.int 0)) nilD)) (constD (.int 9))) (consD (unD tupleD (shareO (lcO (rangeD (constD (.int 9))) [21] (nameT 21) yesT (tupD (consD (varD 21) (consD (varD 21) (consD (constD (.int 0)) nilD))))))) nilD)) ρ g = .ok (wrongN ws) g ∧
    lstO (consD (tupD (consD (varD 8) (consD (unD listD (varD 9)) nilD))) (consD (tupD (consD (tupD (consD (constD (.int 0)) (consD (constD (.int 0)) nilD))) (consD (tupD (consD (tupD (consD (constD (.int 0)) (consD (constD (.int 1)) (consD (constD (.int 0)) nilD)))) nilD)) nilD))) (consD (tupD (consD (varD 8) (consD (opD addD (varD 9) (tupD (consD (tupD (consD (constD (.int 0)) (consD (constD (.int 0)) nilD))) nilD))) nilD))) nilD))) ρ g = .ok (.lst (wrongM os ws)) g ∧
    ∃ d, tupD (consD (varD 8) (consD (opD addD (varD 9) (opD mulD (tupD (consD (tupD (consD (constD (.int 0)) (consD (constD (.int 0)) (consD (constD (.int 0)) nilD)))) nilD)) (constD (.int 25)))) nilD)) ρ g = .ok d g ∧ m_check_arena [d] g = .ex 0 g := by
  have n2 := V.n2
  have ol : (os.map PyData.int).length = os.length := List.length_map _
  have wl : (ws.map encW3).length = ws.length := List.length_map _
  have nilT : tupD nilD ρ g = .ok (.tuple []) g := rfl
  have one : ∀ i j k : Ex, ∀ a b c, i ρ g = .ok a g → j ρ g = .ok b g → k ρ g = .ok c g → tupD (consD (tupD (consD i (consD j (consD k nilD)))) nilD) ρ g = .ok (.tuple [.tuple [a, b, c]]) g := fun i j k a b c h1 h2 h3 =>
    tup_ok (cons_ok (tup_ok (cons_ok h1 (cons_ok h2 (cons_ok h3 (es := nilD) (ds := []) rfl))) (by show 3 ≤ 1000; decide)) (es := nilD) (ds := []) rfl) (by show 1 ≤ 1000; decide)
  have two : ∀ a b : Ex, ∀ x y, a ρ g = .ok x g → b ρ g = .ok y g → tupD (consD a (consD b nilD)) ρ g = .ok (.tuple [x, y]) g := fun a b x y h1 h2 => tup_ok (cons_ok h1 (cons_ok h2 (es := nilD) (ds := []) rfl)) (by show 2 ≤ 1000; decide)
  have addw : ∀ (e : Ex) (d : PyData), e ρ g = .ok (.tuple [d]) g → opD addD (varD 9) e ρ g = .ok (.tuple (ws.map encW3 ++ [d])) g := fun e d h => op_ok v9 h (addT _ _ (by rw [wl]; show ws.length + 1 ≤ _; omega))
  refine ⟨?_, ?_, ?_, ?_⟩
  · have e4 : opD addD (varD 8) (tupD (consD (constD (.int 2)) nilD)) ρ g = .ok (.tuple (os.map PyData.int ++ [.int 2])) g := op_ok v8 (b := .tuple [.int 2]) rfl (addT _ _ (by rw [ol]; show os.length + 1 ≤ _; omega))
    have all := lst_ok (cons_ok (e := constD .none) (d := .none) (ρ := ρ) (g := g) rfl (cons_ok (two _ _ _ _ v8 nilT) (cons_ok (two _ _ _ _ nilT nilT) (cons_ok (two _ _ _ _ e4 v9) (cons_ok (two _ _ _ _ v8 (addw _ _ (one (constD (.int 0)) (varD 2) (constD (.int 0)) _ _ _ rfl v2 rfl))) (cons_ok (two _ _ _ _ v8 (addw _ _ (one (constD (.int 0)) (constD (.int 0)) (constD (.int 9)) _ _ _ rfl rfl rfl))) (es := nilD) (ds := []) rfl)))))) (by show 6 ≤ 1000; decide)
    unfold setOS
    rw [all]
    rfl
  · have e1 : opD mulD (tupD (consD (constD (.int 0)) nilD)) (constD (.int 9)) ρ g = .ok (.tuple (List.replicate 9 (.int 0))) g := op_ok (a := .tuple [.int 0]) (b := .int 9) rfl rfl (mul_tup (.int 0) 9 (by decide) (by decide))
    have c := comp_pure (fi := rangeD (constD (.int 9))) (j := 21) (e := tupD (consD (varD 21) (consD (varD 21) (consD (constD (.int 0)) nilD)))) (fun k : Nat => PyData.int (0 + (k : Int))) (fun k => .tuple [.int (k : Int), .int (k : Int), .int 0]) (List.range 9) (ρ := ρ) (g := g) (by rw [← upFrom_map]; simp [big]) (by simp) fun k _ => by
      have e : ((ρ.set 21 Sl.no).set 21 (.sh (.int (0 + (k : Int)))))[21]? = some (.sh (.int (k : Int))) := by
        rw [List.getElem?_set_self (by rw [List.length_set]; exact h21), show (0 : Int) + (k : Int) = (k : Int) by omega]
      generalize (ρ.set 21 Sl.no).set 21 (.sh (.int (0 + (k : Int)))) = ρ5 at e ⊢
      simp [e]
    exact two _ _ _ _ e1 (un_ok (o := tupleD) (d := .tuple ways9) c rfl)
  · exact lst_ok (cons_ok (two _ _ _ _ v8 (un_ok v9 rfl)) (cons_ok (e := tupD (consD (tupD (consD (constD (.int 0)) (consD (constD (.int 0)) nilD))) (consD (tupD (consD (tupD (consD (constD (.int 0)) (consD (constD (.int 1)) (consD (constD (.int 0)) nilD)))) nilD)) nilD))) rfl (cons_ok (two _ _ _ _ v8 (addw _ _ rfl)) (es := nilD) (ds := []) rfl))) (by show 3 ≤ 1000; decide)
  · have e1 : opD mulD (tupD (consD (tupD (consD (constD (.int 0)) (consD (constD (.int 0)) (consD (constD (.int 0)) nilD)))) nilD)) (constD (.int 25)) ρ g = .ok (.tuple (List.replicate 25 (.tuple [.int 0, .int 0, .int 0]))) g := op_ok (a := .tuple [.tuple [.int 0, .int 0, .int 0]]) (b := .int 25) rfl rfl (mul_tup _ 25 (by decide) (by decide))
    have e2 : opD addD (varD 9) (opD mulD (tupD (consD (tupD (consD (constD (.int 0)) (consD (constD (.int 0)) (consD (constD (.int 0)) nilD)))) nilD)) (constD (.int 25))) ρ g = .ok (.tuple (ws.map encW3 ++ List.replicate 25 (.tuple [.int 0, .int 0, .int 0]))) g := op_ok v9 e1 (addT _ _ (by rw [wl, List.length_replicate]; omega))
    exact ⟨_, two _ _ _ _ v8 e2, check_len (owners_ok V g) (.inr (by rw [List.length_append, List.length_replicate]; omega))⟩
end
theorem law_runs (ms : List Int) (hs : Small ms) : ∃ g', b_law (.no :: .dr :: List.replicate 25 .no) (some (ms, 0)) = .rt (.bool true) g' := by
  obtain ⟨d0, g0, d00, d01, hd0, hg0⟩ := drawM (ms := ms) (g := some (ms, 0)) ⟨0, by decide, rfl⟩ (n := 5) (by decide)
  obtain ⟨n, hn⟩ : ∃ n : Nat, 1 + d0 % 5 = (n : Int) := ⟨(1 + d0 % 5).toNat, by omega⟩
  obtain ⟨os, ws, g1, V, hol, hwl, hg1, hd1⟩ := arena_ok hg0 n (by omega) (by omega)
  have hn5 : n ≤ 5 := by omega
  subst hol
  have n1 := V.n1
  have n2 := V.n2
  obtain ⟨P, hPl, hPv, hPe, hPp, hPs⟩ := all_prices V
  obtain ⟨F0, F1, A, T⟩ := tab_ex V hPe
  have hfew : ∀ pl, (plansP os ws pl os.length).length ≤ 3000 := fun pl => plans_3000 V hwl hn5
  have hne : ∀ pl, pl = 0 ∨ pl = 1 → plansP os ws pl os.length ≠ [] := fun pl h => by
    obtain ⟨p, hp, _⟩ := plan_ex V h hPe
    exact List.ne_nil_of_mem hp
  show Ends b_law _ _ _
  unfold b_law
  refine go_seq (ρ1 := Z27 (.sh (.int (os.length : Int))) .no .no .no .no .no .no .no .no .no .no .no .no .no .no .no .no .no .no .no .no .no .no .no .no) (g1 := g0) (by
    have m5 : modD (.int d0) (.int 5) = some (.int (d0 % 5)) := md (by decide)
    have a1 : addD (.int 1) (.int (d0 % 5)) = some (.int (os.length : Int)) := by rw [← hn]; rfl
    generalize d0 % 5 = D at m5 a1
    generalize modD = M at m5 ⊢
    generalize addD = A at a1 ⊢
    simp [hd0, m5, a1]) ?_
  refine go_seq (ρ1 := Z27 (.sh (.int (os.length : Int))) (.sh (encA os ws)) .no .no .no .no .no .no .no .no .no .no .no .no .no .no .no .no .no .no .no .no .no .no .no) (g1 := g1) (by simp [hd1]) ?_
  refine go_seq (ρ1 := Z27 (.sh (.int (os.length : Int))) (.sh (encA os ws)) .no .no .no .no (.sh (owD os)) (.sh (wyD ws)) .no .no .no .no .no .no .no .no .no .no .no .no .no .no .no .no .no) (g1 := g1) (by simp [encA]) ?_
  refine go_seq (ρ1 := Z27 (.sh (.int (os.length : Int))) (.sh (encA os ws)) (.sh (rowD P)) .no .no .no (.sh (owD os)) (.sh (wyD ws)) .no .no .no .no .no .no .no .no .no .no .no .no .no .no .no .no .no) (g1 := g1) (by
    have h := hPp g1
    generalize rowD P = D at h ⊢
    simp [h]) ?_
  refine go_seq (ρ1 := Z27 (.sh (.int (os.length : Int))) (.sh (encA os ws)) (.sh (rowD P)) .no .no .no (.sh (owD os)) (.sh (wyD ws)) .no .no .no .no .no .no .no .no .no .no .no .no .no .no .no .no .no) (g1 := g1) (by
    refine (if_no (g1 := g1) ?_).trans rfl
    have h2 := hPs g1
    have h3 : m_law_equal [rowD P, rowD P] g1 = .ok (.bool true) g1 := equal_refl g1 (nar_V P (by omega))
    generalize rowD P = D at h2 h3 ⊢
    generalize encA os ws = A at h2 ⊢
    simp [h2, h3]) ?_
  refine go_seq (ρ1 := N27 os ws P .no .no .no .no .no .no .no .no .no .no .no) (g1 := g1) (by
    have h0 := lawPlans_ok V (hfew 0) g1
    have h1 := lawPlans_ok V (hfew 1) g1
    unfold N27
    show _ = SR.nx [.no, .dr, .sh (.int (os.length : Int)), .sh (encA os ws), .sh (rowD P), .no, .no, .no, .sh (owD os), .sh (wyD ws), .sh (.list ((plansP os ws 0 os.length).map plD)), .sh (.list ((plansP os ws 1 os.length).map plD)), .no, .no, .no, .no, .no, .no, .no, .no, .no, .no, .no, .no, .no, .no, .no] g1
    generalize (plansP os ws 0 os.length).map plD = MI at h0 ⊢
    generalize (plansP os ws 1 os.length).map plD = TH at h1 ⊢
    generalize rowD P = D
    generalize encA os ws = D2
    generalize owD os = D3 at h0 h1 ⊢
    generalize wyD ws = D4 at h0 h1 ⊢
    simp [h0, h1]) ?_
  obtain ⟨ro, p, su, as, ta, row, k, ot, wo, on, be, hfe⟩ := few_ok (PP := P) V T hPl hfew g1
  refine go_seq hfe ?_
  obtain ⟨g2, ps2, p2, ti2, va2, ri2, hg2, hp0⟩ := play_ok (PP := P) (pl := 0) hg1 V (.inl rfl) (hfew 0) (hne 0 (.inl rfl)) .no p .no .no .no ro su as ta row k ot wo on be
  obtain ⟨g3, ps3, p3, ti3, va3, ri3, hg3, hp1⟩ := play_ok (PP := P) (pl := 1) hg2 V (.inr rfl) (hfew 1) (hne 1 (.inr rfl)) ps2 p2 ti2 va2 ri2 ro su as ta row k ot wo on be
  refine go_seq (ρ1 := P27 os ws P (.sh (.int 1)) ps3 p3 ti3 va3 ri3 ro su as ta row k ot wo on be) (g1 := g3) (by
    have key : ∀ B : Sm, B (P27 os ws P (.sh (.int 0)) .no p .no .no .no ro su as ta row k ot wo on be) g1 = .nx (P27 os ws P (.sh (.int 0)) ps2 p2 ti2 va2 ri2 ro su as ta row k ot wo on be) g2 → B (P27 os ws P (.sh (.int 1)) ps2 p2 ti2 va2 ri2 ro su as ta row k ot wo on be) g2 = .nx (P27 os ws P (.sh (.int 1)) ps3 p3 ti3 va3 ri3 ro su as ta row k ot wo on be) g3 →
        forS (itemsD (tupD (consD (constD (.int 0)) (consD (constD (.int 1)) nilD)))) (nameT 5) B (N27 os ws P ro p su as ta row k ot wo on be) g1 = .nx (P27 os ws P (.sh (.int 1)) ps3 p3 ti3 va3 ri3 ro su as ta row k ot wo on be) g3 := fun B k1 k2 => by
      refine for_run (g1 := g1) (ds := [.int 0, .int 1]) rfl ?_
      have n0 : nameT 5 (.int 0) (N27 os ws P ro p su as ta row k ot wo on be) = some (P27 os ws P (.sh (.int 0)) .no p .no .no .no ro su as ta row k ot wo on be) := rfl
      have n1' : nameT 5 (.int 1) (P27 os ws P (.sh (.int 0)) ps2 p2 ti2 va2 ri2 ro su as ta row k ot wo on be) = some (P27 os ws P (.sh (.int 1)) ps2 p2 ti2 va2 ri2 ro su as ta row k ot wo on be) := rfl
      unfold forD
      rw [n0]
      simp only [k1]
      unfold forD
      rw [n1']
      simp only [k2]
      rfl
    exact key _ hp0 hp1) ?_
  -- what is refused
  generalize hρ : P27 os ws P (.sh (.int 1)) ps3 p3 ti3 va3 ri3 ro su as ta row k ot wo on be = ρ0
  have hlen : ρ0.length = 27 := by rw [← hρ]; rfl
  have f2 : ρ0[2]? = some (.sh (.int (os.length : Int))) := by rw [← hρ]; rfl
  have f3 : ρ0[3]? = some (.sh (encA os ws)) := by rw [← hρ]; rfl
  have f8 : ρ0[8]? = some (.sh (owD os)) := by rw [← hρ]; rfl
  have f9 : ρ0[9]? = some (.sh (wyD ws)) := by rw [← hρ]; rfl
  clear hρ
  have vv : ∀ {i : Nat} {ρ : Nv} {d : PyData} {g : DL.G}, ρ[i]? = some (.sh d) → varD i ρ g = .ok d g := fun h => by simp [h]
  obtain ⟨w1, _, _, _⟩ := wrongs_made V hn5 (by omega) ρ0 g3 (vv f2) (vv f8) (vv f9) (by omega)
  refine go_seq w1 ?_
  obtain ⟨_, w2, _, _⟩ := wrongs_made V hn5 (by omega) (ρ0.set 6 (.ow (.lst (wrongL os ws)))) g3 (vv (by rw [List.getElem?_set_ne (by decide)]; exact f2)) (vv (by rw [List.getElem?_set_ne (by decide)]; exact f8)) (vv (by rw [List.getElem?_set_ne (by decide)]; exact f9)) (by rw [List.length_set]; omega)
  refine go_seq (ρ1 := ρ0.set 6 (.ow (.lst (wrongL os ws ++ [wrongN ws])))) (g1 := g3) (by
    have e : (ρ0.set 6 (.ow (.lst (wrongL os ws))))[6]? = some (.ow (.lst (wrongL os ws))) := List.getElem?_set_self (by omega)
    have l : (wrongL os ws).length < big := by show 6 < 1000000; decide
    unfold appS
    rw [w2]
    simp only [e]
    rw [if_pos l, List.set_set]) ?_
  refine go_shut (ds := wrongL os ws ++ [wrongN ws]) (ρ1 := ρ0.set 6 (.sh (.list (wrongL os ws ++ [wrongN ws])))) (List.getElem?_set_self (by omega)) (List.set_set ..) ?_
  have all := wrong_all V hn5 (by omega) g3
  generalize hD : wrongL os ws ++ [wrongN ws] = D at all ⊢
  have hDl : D.length = 7 := by rw [← hD]; rfl
  generalize hρ : ρ0.set 6 (.sh (.list D)) = ρ1
  have hlen1 : ρ1.length = 27 := by rw [← hρ, List.length_set]; exact hlen
  have f2' : ρ1[2]? = some (.sh (.int (os.length : Int))) := by rw [← hρ, List.getElem?_set_ne (by decide)]; exact f2
  have f3' : ρ1[3]? = some (.sh (encA os ws)) := by rw [← hρ, List.getElem?_set_ne (by decide)]; exact f3
  have f6' : ρ1[6]? = some (.sh (.list D)) := by rw [← hρ]; exact List.getElem?_set_self (by omega)
  have f8' : ρ1[8]? = some (.sh (owD os)) := by rw [← hρ, List.getElem?_set_ne (by decide)]; exact f8
  have f9' : ρ1[9]? = some (.sh (wyD ws)) := by rw [← hρ, List.getElem?_set_ne (by decide)]; exact f9
  clear hρ
  obtain ⟨_, _, w3, _⟩ := wrongs_made V hn5 (by omega) ρ1 g3 (vv f2') (vv f8') (vv f9') (by omega)
  have hitems : itemsD (opD addD (varD 6) (shareO (lstO (consD (tupD (consD (varD 8) (consD (unD listD (varD 9)) nilD))) (consD (tupD (consD (tupD (consD (constD (.int 0)) (consD (constD (.int 0)) nilD))) (consD (tupD (consD (tupD (consD (constD (.int 0)) (consD (constD (.int 1)) (consD (constD (.int 0)) nilD)))) nilD)) nilD))) (consD (tupD (consD (varD 8) (consD (opD addD (varD 9) (tupD (consD (tupD (consD (constD (.int 0)) (consD (constD (.int 0)) nilD))) nilD))) nilD))) nilD)))))) ρ1 g3 = .ok (D ++ wrongM os ws) g3 := by
    have := op_ok (vv f6' (g := g3)) (share_ok w3) (addL D (wrongM os ws) (by rw [hDl]; show 7 + 3 ≤ 1000000; decide))
    generalize (opD addD (varD 6) (shareO _)) = X at this ⊢
    simp [this]
  have ne1 : neD (strD "arena") (strD "arena") = some (.bool false) := by simp [neD, eqD]
  have ne2 : neD (strD "argument") (strD "argument") = some (.bool false) := by simp [neD, eqD]
  have ee : eqD (strD "arena") (strD "arena") = some (.bool true) := by simp [eqD]
  obtain ⟨ρ', g', h3, hg', z, rfl⟩ := forD_all (t := nameT 7) (body := ifS (boolD (opD neD (callD 3 m_law_refused (consD (constD (.str (PySem.Str.ofString "least"))) (consD (varD 7) (consD (constD .none) nilD)))) (constD (.str (PySem.Str.ofString "arena")))))
    (retS (constD (.bool false)))
    nextS) id (fun _ ρ g' => g' = g3 ∧ ∃ z, ρ = ρ1.set 7 z) (D ++ wrongM os ws) (by
    rintro pre d post e ρ g' ⟨e', z, rfl⟩
    have hb := refused_least (d := .none) (all d (by rw [e]; simp))
    rw [← e'] at hb
    have f7 : ((ρ1.set 7 z).set 7 (.sh d))[7]? = some (.sh d) := List.getElem?_set_self (by rw [List.length_set]; omega)
    refine ⟨(ρ1.set 7 z).set 7 (.sh d), (ρ1.set 7 z).set 7 (.sh d), g', rfl, .inl ((if_no (g1 := g') ?_).trans rfl), e', .sh d, List.set_set ..⟩
    generalize (ρ1.set 7 z).set 7 (.sh d) = ρ5 at f7 ⊢
    simp only [strD] at hb ne1
    generalize PySem.Str.ofString "arena" = s1 at hb ne1 ⊢
    generalize PySem.Str.ofString "least" = s2 at hb ⊢
    simp [f7, hb, ne1]) (g := g3) (ρ := ρ1) ⟨rfl, ρ1[7]?.getD .no, by
      rw [List.getElem?_eq_getElem (by omega)]
      exact (List.set_getElem_self (by omega)).symm⟩
  rw [hg', List.map_id] at h3
  refine go_seq (for_run (g1 := g3) hitems h3) ?_
  obtain ⟨ρ', g', h4, hg', z2, rfl⟩ := forD_all (t := nameT 7) (body := ifS (boolD (opD neD (callD 3 m_law_refused (consD (constD (.str (PySem.Str.ofString "plan"))) (consD (varD 3) (consD (varD 7) nilD)))) (constD (.str (PySem.Str.ofString "argument")))))
    (retS (constD (.bool false)))
    nextS) id (fun _ ρ g' => g' = g3 ∧ ∃ z, ρ = ρ1.set 7 z) ([.int 2, .int (-1), .bool true, .none] : List PyData) (by
    rintro pre d post e ρ g' ⟨e', z, rfl⟩
    have hb := refused_plan V (bad_player g' d (by rw [e]; simp))
    have f7 : ((ρ1.set 7 z).set 7 (.sh d))[7]? = some (.sh d) := List.getElem?_set_self (by rw [List.length_set]; omega)
    have f3 : ((ρ1.set 7 z).set 7 (.sh d))[3]? = some (.sh (encA os ws)) := by rw [List.getElem?_set_ne (by decide), List.getElem?_set_ne (by decide)]; exact f3'
    refine ⟨(ρ1.set 7 z).set 7 (.sh d), (ρ1.set 7 z).set 7 (.sh d), g', rfl, .inl ((if_no (g1 := g') ?_).trans rfl), e', .sh d, List.set_set ..⟩
    generalize (ρ1.set 7 z).set 7 (.sh d) = ρ5 at f7 f3 ⊢
    simp only [strD] at hb ne2
    generalize PySem.Str.ofString "argument" = s1 at hb ne2 ⊢
    generalize PySem.Str.ofString "plan" = s2 at hb ⊢
    generalize encA os ws = A0 at hb f3
    simp [f7, f3, hb, ne2]) (g := g3) (ρ := ρ1.set 7 z) ⟨rfl, _, rfl⟩
  rw [hg', List.map_id] at h4
  refine go_seq (for_run (g1 := g3) rfl h4) ?_
  obtain ⟨_, _, _, d, w4, w5⟩ := wrongs_made V hn5 (by omega) (ρ1.set 7 z2) g3 (vv (by rw [List.getElem?_set_ne (by decide)]; exact f2')) (vv (by rw [List.getElem?_set_ne (by decide)]; exact f8')) (vv (by rw [List.getElem?_set_ne (by decide)]; exact f9')) (by rw [List.length_set]; omega)
  have q := refused_least (d := .none) w5
  simp only [strD] at q ee
  generalize PySem.Str.ofString "arena" = s1 at q ee ⊢
  generalize PySem.Str.ofString "least" = s2 at q ⊢
  generalize (tupD (consD (varD 8) (consD (opD addD (varD 9) (opD mulD (tupD (consD (tupD (consD (constD (.int 0)) (consD (constD (.int 0)) (consD (constD (.int 0)) nilD)))) nilD)) (constD (.int 25)))) nilD))) = E at w4 ⊢
  exact ⟨g3, by simp [w4, q, ee]⟩
end K

set_option Elab.async false
set_option linter.all false
set_option maxRecDepth 100000
set_option maxHeartbeats 1000000
namespace K
open PySem PySem.Spec PyProof.Rows L2 DL
section
theorem exm_of {K : PySem.W.Frag} {S T : Addr} {b : Bool} (h1 : PySem.W.subIn K (.ref T) (.type "BaseException") = some true) (h2 : PySem.W.isClsIn K T = true) (h3 : PySem.W.typeIn K (.ref T) = some (.type "type")) (h4 : PySem.W.subIn K (.ref S) (.ref T) = some b) :
    PySem.W.exmOne K (.ref S) (.ref T) = some b := by
  have e1 : (PySem.W.subIn K (.ref T) (.type "BaseException") == some true) = true := by rw [h1] <;> rfl
  have e2 : ((PySem.W.clsIn K T).isSome && PySem.W.typeIn K (.ref T) == some (.type "type")) = true := by
    have h2' : (PySem.W.clsIn K T).isSome = true := h2
    rw [h2', h3] <;> rfl
  show (if (PySem.W.subIn K (.ref T) (.type "BaseException") == some true) = true then (if ((PySem.W.clsIn K T).isSome && PySem.W.typeIn K (.ref T) == some (.type "type")) = true then PySem.W.subIn K (.ref S) (.ref T) else none) else none) = some b
  rw [if_pos e1, if_pos e2]
  exact h4
theorem cx_no {P : Program} {w : World} {H : Hp} {s s2 : Shared} {v : Value} (h : L2.CX P w [] H s (fun _ _ _ => False) v s2) : False := by
  obtain ⟨_, _, _, _, _, _, _, _, _, _, _, _, h⟩ := h
  exact h
set_option maxHeartbeats 4000000 in
theorem all_mk {l : PySem.W.OpenLaw} {w : World} {K : PySem.W.Frag} {h : Heap} {mg : Str → Option Value} (X : K.In h) (G : h.Ns mainGlobals mg) {fa C0 C1 f0 f1 f2 f3 f4 f5 f6 f7 f8 f9 f10 f11 f12 f13 f14 f15 f16 f17 f18 f19 f20 f21 f22 f23 f24 f25 f26 f27 f28 f29 f30 f31 f32 f33 : Addr} {od0 od1 od2 od3 od4 od5 od6 od7 od8 od9 od10 od11 od12 od13 od14 od15 od16 od17 od18 od19 od20 od21 od22 od23 od24 od25 od26 od27 od28 od29 od30 od31 od32 od33 an0 an1 an2 an3 an4 an5 an6 an7 an8 an9 an10 an11 an12 an13 an14 an15 an16 an17 an18 an19 an20 an21 an22 an23 an24 an25 an26 an27 an28 an29 an30 an31 an32 an33 : Option Addr} {sl0 sl1 sl2 sl3 sl4 sl5 sl6 sl7 sl8 sl9 sl10 sl11 sl12 sl13 sl14 sl15 sl16 sl17 sl18 sl19 sl20 sl21 sl22 sl23 sl24 sl25 sl26 sl27 sl28 sl29 sl30 sl31 sl32 sl33 : Array (Option Value)} {oc0 oc1 oc2 oc3 oc4 oc5 oc6 oc7 oc8 oc9 oc10 oc11 oc12 oc13 oc14 oc15 oc16 oc17 oc18 oc19 oc20 oc21 oc22 oc23 oc24 oc25 oc26 oc27 oc28 oc29 oc30 oc31 oc32 oc33 kV0 kV1 kV2 kV3 kV4 kV5 kV6 kV7 kV8 kV9 kV10 kV11 kV12 kV13 kV14 kV15 kV16 kV17 kV18 kV19 kV20 kV21 kV22 kV23 kV24 kV25 kV26 kV27 kV28 kV29 kV30 kV31 kV32 kV33 dc0 dc1 dc2 dc3 dc4 dc5 dc6 dc7 dc8 dc9 dc10 dc11 dc12 dc13 dc14 dc15 dc16 dc17 dc18 dc19 dc20 dc21 dc22 dc23 dc24 dc25 dc26 dc27 dc28 dc29 dc30 dc31 dc32 dc33 pm0 pm1 pm2 pm3 pm4 pm5 pm6 pm7 pm8 pm9 pm10 pm11 pm12 pm13 pm14 pm15 pm16 pm17 pm18 pm19 pm20 pm21 pm22 pm23 pm24 pm25 pm26 pm27 pm28 pm29 pm30 pm31 pm32 pm33 cd0 cd1 cd2 cd3 cd4 cd5 cd6 cd7 cd8 cd9 cd10 cd11 cd12 cd13 cd14 cd15 cd16 cd17 cd18 cd19 cd20 cd21 cd22 cd23 cd24 cd25 cd26 cd27 cd28 cd29 cd30 cd31 cd32 cd33 ct0 ct1 ct2 ct3 ct4 ct5 ct6 ct7 ct8 ct9 ct10 ct11 ct12 ct13 ct14 ct15 ct16 ct17 ct18 ct19 ct20 ct21 ct22 ct23 ct24 ct25 ct26 ct27 ct28 ct29 ct30 ct31 ct32 ct33 : Value} {t_MOST_AMOUNT t_MOST_ROOMS t_MOST_WAYS : _} (hfa : mg "law" = some (.ref fa))
    (a0 : PySem.W.nsIn K mainGlobals "_law_mixed" = some (some (.ref f0)))
    (l0 : K.lookup f0 = some ⟨oc0, od0, .func (PySem.W.fnOf "_law_mixed" "_law_mixed" (defArgs s_law_mixed) (defBody s_law_mixed) (defScope s_law_mixed) .none kV0 dc0 pm0 an0 cd0 ct0), sl0⟩)
    (c0 : PySem.W.codeIn K cd0 "_law_mixed" = true) (k0 : PySem.W.keepIn K (.ref f0) = true)
    (a1 : PySem.W.nsIn K mainGlobals "_law_draw" = some (some (.ref f1)))
    (l1 : K.lookup f1 = some ⟨oc1, od1, .func (PySem.W.fnOf "_law_draw" "_law_draw" (defArgs s_law_draw) (defBody s_law_draw) (defScope s_law_draw) .none kV1 dc1 pm1 an1 cd1 ct1), sl1⟩)
    (c1 : PySem.W.codeIn K cd1 "_law_draw" = true) (k1 : PySem.W.keepIn K (.ref f1) = true)
    (a2 : PySem.W.nsIn K mainGlobals "_law_arena" = some (some (.ref f2)))
    (l2 : K.lookup f2 = some ⟨oc2, od2, .func (PySem.W.fnOf "_law_arena" "_law_arena" (defArgs s_law_arena) (defBody s_law_arena) (defScope s_law_arena) .none kV2 dc2 pm2 an2 cd2 ct2), sl2⟩)
    (c2 : PySem.W.codeIn K cd2 "_law_arena" = true) (k2 : PySem.W.keepIn K (.ref f2) = true)
    (a3 : PySem.W.nsIn K mainGlobals "_law_prices" = some (some (.ref f3)))
    (l3 : K.lookup f3 = some ⟨oc3, od3, .func (PySem.W.fnOf "_law_prices" "_law_prices" (defArgs s_law_prices) (defBody s_law_prices) (defScope s_law_prices) .none kV3 dc3 pm3 an3 cd3 ct3), sl3⟩)
    (c3 : PySem.W.codeIn K cd3 "_law_prices" = true) (k3 : PySem.W.keepIn K (.ref f3) = true)
    (a4 : PySem.W.nsIn K mainGlobals "_law_numbers" = some (some (.ref f4)))
    (l4 : K.lookup f4 = some ⟨oc4, od4, .func (PySem.W.fnOf "_law_numbers" "_law_numbers" (defArgs s_law_numbers) (defBody s_law_numbers) (defScope s_law_numbers) .none kV4 dc4 pm4 an4 cd4 ct4), sl4⟩)
    (c4 : PySem.W.codeIn K cd4 "_law_numbers" = true) (k4 : PySem.W.keepIn K (.ref f4) = true)
    (a5 : PySem.W.nsIn K mainGlobals "_law_all_equal" = some (some (.ref f5)))
    (l5 : K.lookup f5 = some ⟨oc5, od5, .func (PySem.W.fnOf "_law_all_equal" "_law_all_equal" (defArgs s_law_all_equal) (defBody s_law_all_equal) (defScope s_law_all_equal) .none kV5 dc5 pm5 an5 cd5 ct5), sl5⟩)
    (c5 : PySem.W.codeIn K cd5 "_law_all_equal" = true) (k5 : PySem.W.keepIn K (.ref f5) = true)
    (a6 : PySem.W.nsIn K mainGlobals "_law_equal" = some (some (.ref f6)))
    (l6 : K.lookup f6 = some ⟨oc6, od6, .func (PySem.W.fnOf "_law_equal" "_law_equal" (defArgs s_law_equal) (defBody s_law_equal) (defScope s_law_equal) .none kV6 dc6 pm6 an6 cd6 ct6), sl6⟩)
    (c6 : PySem.W.codeIn K cd6 "_law_equal" = true) (k6 : PySem.W.keepIn K (.ref f6) = true)
    (a7 : PySem.W.nsIn K mainGlobals "_law_plans" = some (some (.ref f7)))
    (l7 : K.lookup f7 = some ⟨oc7, od7, .func (PySem.W.fnOf "_law_plans" "_law_plans" (defArgs s_law_plans) (defBody s_law_plans) (defScope s_law_plans) .none kV7 dc7 pm7 an7 cd7 ct7), sl7⟩)
    (c7 : PySem.W.codeIn K cd7 "_law_plans" = true) (k7 : PySem.W.keepIn K (.ref f7) = true)
    (a8 : PySem.W.nsIn K mainGlobals "is_tuple" = some (some (.ref f8)))
    (l8 : K.lookup f8 = some ⟨oc8, od8, .func (PySem.W.fnOf "is_tuple" "is_tuple" (defArgs s_is_tuple) (defBody s_is_tuple) (defScope s_is_tuple) .none kV8 dc8 pm8 an8 cd8 ct8), sl8⟩)
    (c8 : PySem.W.codeIn K cd8 "is_tuple" = true) (k8 : PySem.W.keepIn K (.ref f8) = true)
    (a9 : PySem.W.nsIn K mainGlobals "is_within" = some (some (.ref f9)))
    (l9 : K.lookup f9 = some ⟨oc9, od9, .func (PySem.W.fnOf "is_within" "is_within" (defArgs s_is_within) (defBody s_is_within) (defScope s_is_within) .none kV9 dc9 pm9 an9 cd9 ct9), sl9⟩)
    (c9 : PySem.W.codeIn K cd9 "is_within" = true) (k9 : PySem.W.keepIn K (.ref f9) = true)
    (a10 : PySem.W.nsIn K mainGlobals "are_owners" = some (some (.ref f10)))
    (l10 : K.lookup f10 = some ⟨oc10, od10, .func (PySem.W.fnOf "are_owners" "are_owners" (defArgs s_are_owners) (defBody s_are_owners) (defScope s_are_owners) .none kV10 dc10 pm10 an10 cd10 ct10), sl10⟩)
    (c10 : PySem.W.codeIn K cd10 "are_owners" = true) (k10 : PySem.W.keepIn K (.ref f10) = true)
    (a11 : PySem.W.nsIn K mainGlobals "is_way" = some (some (.ref f11)))
    (l11 : K.lookup f11 = some ⟨oc11, od11, .func (PySem.W.fnOf "is_way" "is_way" (defArgs s_is_way) (defBody s_is_way) (defScope s_is_way) .none kV11 dc11 pm11 an11 cd11 ct11), sl11⟩)
    (c11 : PySem.W.codeIn K cd11 "is_way" = true) (k11 : PySem.W.keepIn K (.ref f11) = true)
    (a12 : PySem.W.nsIn K mainGlobals "ways_from" = some (some (.ref f12)))
    (l12 : K.lookup f12 = some ⟨oc12, od12, .func (PySem.W.fnOf "ways_from" "ways_from" (defArgs s_ways_from) (defBody s_ways_from) (defScope s_ways_from) .none kV12 dc12 pm12 an12 cd12 ct12), sl12⟩)
    (c12 : PySem.W.codeIn K cd12 "ways_from" = true) (k12 : PySem.W.keepIn K (.ref f12) = true)
    (a13 : PySem.W.nsIn K mainGlobals "check_arena" = some (some (.ref f13)))
    (l13 : K.lookup f13 = some ⟨oc13, od13, .func (PySem.W.fnOf "check_arena" "check_arena" (defArgs s_check_arena) (defBody s_check_arena) (defScope s_check_arena) .none kV13 dc13 pm13 an13 cd13 ct13), sl13⟩)
    (c13 : PySem.W.codeIn K cd13 "check_arena" = true) (k13 : PySem.W.keepIn K (.ref f13) = true)
    (a14 : PySem.W.nsIn K mainGlobals "asked" = some (some (.ref f14)))
    (l14 : K.lookup f14 = some ⟨oc14, od14, .func (PySem.W.fnOf "asked" "asked" (defArgs s_asked) (defBody s_asked) (defScope s_asked) .none kV14 dc14 pm14 an14 cd14 ct14), sl14⟩)
    (c14 : PySem.W.codeIn K cd14 "asked" = true) (k14 : PySem.W.keepIn K (.ref f14) = true)
    (a15 : PySem.W.nsIn K mainGlobals "least_of" = some (some (.ref f15)))
    (l15 : K.lookup f15 = some ⟨oc15, od15, .func (PySem.W.fnOf "least_of" "least_of" (defArgs s_least_of) (defBody s_least_of) (defScope s_least_of) .none kV15 dc15 pm15 an15 cd15 ct15), sl15⟩)
    (c15 : PySem.W.codeIn K cd15 "least_of" = true) (k15 : PySem.W.keepIn K (.ref f15) = true)
    (a16 : PySem.W.nsIn K mainGlobals "greatest_of" = some (some (.ref f16)))
    (l16 : K.lookup f16 = some ⟨oc16, od16, .func (PySem.W.fnOf "greatest_of" "greatest_of" (defArgs s_greatest_of) (defBody s_greatest_of) (defScope s_greatest_of) .none kV16 dc16 pm16 an16 cd16 ct16), sl16⟩)
    (c16 : PySem.W.codeIn K cd16 "greatest_of" = true) (k16 : PySem.W.keepIn K (.ref f16) = true)
    (a17 : PySem.W.nsIn K mainGlobals "wanted" = some (some (.ref f17)))
    (l17 : K.lookup f17 = some ⟨oc17, od17, .func (PySem.W.fnOf "wanted" "wanted" (defArgs s_wanted) (defBody s_wanted) (defScope s_wanted) .none kV17 dc17 pm17 an17 cd17 ct17), sl17⟩)
    (c17 : PySem.W.codeIn K cd17 "wanted" = true) (k17 : PySem.W.keepIn K (.ref f17) = true)
    (a18 : PySem.W.nsIn K mainGlobals "is_more" = some (some (.ref f18)))
    (l18 : K.lookup f18 = some ⟨oc18, od18, .func (PySem.W.fnOf "is_more" "is_more" (defArgs s_is_more) (defBody s_is_more) (defScope s_is_more) .none kV18 dc18 pm18 an18 cd18 ct18), sl18⟩)
    (c18 : PySem.W.codeIn K cd18 "is_more" = true) (k18 : PySem.W.keepIn K (.ref f18) = true)
    (a19 : PySem.W.nsIn K mainGlobals "starts_with" = some (some (.ref f19)))
    (l19 : K.lookup f19 = some ⟨oc19, od19, .func (PySem.W.fnOf "starts_with" "starts_with" (defArgs s_starts_with) (defBody s_starts_with) (defScope s_starts_with) .none kV19 dc19 pm19 an19 cd19 ct19), sl19⟩)
    (c19 : PySem.W.codeIn K cd19 "starts_with" = true) (k19 : PySem.W.keepIn K (.ref f19) = true)
    (a20 : PySem.W.nsIn K mainGlobals "all_choices" = some (some (.ref f20)))
    (l20 : K.lookup f20 = some ⟨oc20, od20, .func (PySem.W.fnOf "all_choices" "all_choices" (defArgs s_all_choices) (defBody s_all_choices) (defScope s_all_choices) .none kV20 dc20 pm20 an20 cd20 ct20), sl20⟩)
    (c20 : PySem.W.codeIn K cd20 "all_choices" = true) (k20 : PySem.W.keepIn K (.ref f20) = true)
    (a21 : PySem.W.nsIn K mainGlobals "least_starts" = some (some (.ref f21)))
    (l21 : K.lookup f21 = some ⟨oc21, od21, .func (PySem.W.fnOf "least_starts" "least_starts" (defArgs s_least_starts) (defBody s_least_starts) (defScope s_least_starts) .none kV21 dc21 pm21 an21 cd21 ct21), sl21⟩)
    (c21 : PySem.W.codeIn K cd21 "least_starts" = true) (k21 : PySem.W.keepIn K (.ref f21) = true)
    (a22 : PySem.W.nsIn K mainGlobals "check_player" = some (some (.ref f22)))
    (l22 : K.lookup f22 = some ⟨oc22, od22, .func (PySem.W.fnOf "check_player" "check_player" (defArgs s_check_player) (defBody s_check_player) (defScope s_check_player) .none kV22 dc22 pm22 an22 cd22 ct22), sl22⟩)
    (c22 : PySem.W.codeIn K cd22 "check_player" = true) (k22 : PySem.W.keepIn K (.ref f22) = true)
    (a23 : PySem.W.nsIn K mainGlobals "is_plan_of" = some (some (.ref f23)))
    (l23 : K.lookup f23 = some ⟨oc23, od23, .func (PySem.W.fnOf "is_plan_of" "is_plan_of" (defArgs s_is_plan_of) (defBody s_is_plan_of) (defScope s_is_plan_of) .none kV23 dc23 pm23 an23 cd23 ct23), sl23⟩)
    (c23 : PySem.W.codeIn K cd23 "is_plan_of" = true) (k23 : PySem.W.keepIn K (.ref f23) = true)
    (a24 : PySem.W.nsIn K mainGlobals "is_plan" = some (some (.ref f24)))
    (l24 : K.lookup f24 = some ⟨oc24, od24, .func (PySem.W.fnOf "is_plan" "is_plan" (defArgs s_is_plan) (defBody s_is_plan) (defScope s_is_plan) .none kV24 dc24 pm24 an24 cd24 ct24), sl24⟩)
    (c24 : PySem.W.codeIn K cd24 "is_plan" = true) (k24 : PySem.W.keepIn K (.ref f24) = true)
    (a25 : PySem.W.nsIn K mainGlobals "_law_refused" = some (some (.ref f25)))
    (l25 : K.lookup f25 = some ⟨oc25, od25, .func (PySem.W.fnOf "_law_refused" "_law_refused" (defArgs s_law_refused) (defBody s_law_refused) (defScope s_law_refused) .none kV25 dc25 pm25 an25 cd25 ct25), sl25⟩)
    (c25 : PySem.W.codeIn K cd25 "_law_refused" = true) (k25 : PySem.W.keepIn K (.ref f25) = true)
    (a26 : PySem.W.nsIn K mainGlobals "_law_lesser" = some (some (.ref f26)))
    (l26 : K.lookup f26 = some ⟨oc26, od26, .func (PySem.W.fnOf "_law_lesser" "_law_lesser" (defArgs s_law_lesser) (defBody s_law_lesser) (defScope s_law_lesser) .none kV26 dc26 pm26 an26 cd26 ct26), sl26⟩)
    (c26 : PySem.W.codeIn K cd26 "_law_lesser" = true) (k26 : PySem.W.keepIn K (.ref f26) = true)
    (a27 : PySem.W.nsIn K mainGlobals "_law_greater" = some (some (.ref f27)))
    (l27 : K.lookup f27 = some ⟨oc27, od27, .func (PySem.W.fnOf "_law_greater" "_law_greater" (defArgs s_law_greater) (defBody s_law_greater) (defScope s_law_greater) .none kV27 dc27 pm27 an27 cd27 ct27), sl27⟩)
    (c27 : PySem.W.codeIn K cd27 "_law_greater" = true) (k27 : PySem.W.keepIn K (.ref f27) = true)
    (a28 : PySem.W.nsIn K mainGlobals "kept_to" = some (some (.ref f28)))
    (l28 : K.lookup f28 = some ⟨oc28, od28, .func (PySem.W.fnOf "kept_to" "kept_to" (defArgs s_kept_to) (defBody s_kept_to) (defScope s_kept_to) .none kV28 dc28 pm28 an28 cd28 ct28), sl28⟩)
    (c28 : PySem.W.codeIn K cd28 "kept_to" = true) (k28 : PySem.W.keepIn K (.ref f28) = true)
    (a29 : PySem.W.nsIn K mainGlobals "starts_by" = some (some (.ref f29)))
    (l29 : K.lookup f29 = some ⟨oc29, od29, .func (PySem.W.fnOf "starts_by" "starts_by" (defArgs s_starts_by) (defBody s_starts_by) (defScope s_starts_by) .none kV29 dc29 pm29 an29 cd29 ct29), sl29⟩)
    (c29 : PySem.W.codeIn K cd29 "starts_by" = true) (k29 : PySem.W.keepIn K (.ref f29) = true)
    (a30 : PySem.W.nsIn K mainGlobals "_law_kept" = some (some (.ref f30)))
    (l30 : K.lookup f30 = some ⟨oc30, od30, .func (PySem.W.fnOf "_law_kept" "_law_kept" (defArgs s_law_kept) (defBody s_law_kept) (defScope s_law_kept) .none kV30 dc30 pm30 an30 cd30 ct30), sl30⟩)
    (c30 : PySem.W.codeIn K cd30 "_law_kept" = true) (k30 : PySem.W.keepIn K (.ref f30) = true)
    (a31 : PySem.W.nsIn K mainGlobals "_law_alone" = some (some (.ref f31)))
    (l31 : K.lookup f31 = some ⟨oc31, od31, .func (PySem.W.fnOf "_law_alone" "_law_alone" (defArgs s_law_alone) (defBody s_law_alone) (defScope s_law_alone) .none kV31 dc31 pm31 an31 cd31 ct31), sl31⟩)
    (c31 : PySem.W.codeIn K cd31 "_law_alone" = true) (k31 : PySem.W.keepIn K (.ref f31) = true)
    (a32 : PySem.W.nsIn K mainGlobals "_law_kept_too" = some (some (.ref f32)))
    (l32 : K.lookup f32 = some ⟨oc32, od32, .func (PySem.W.fnOf "_law_kept_too" "_law_kept_too" (defArgs s_law_kept_too) (defBody s_law_kept_too) (defScope s_law_kept_too) .none kV32 dc32 pm32 an32 cd32 ct32), sl32⟩)
    (c32 : PySem.W.codeIn K cd32 "_law_kept_too" = true) (k32 : PySem.W.keepIn K (.ref f32) = true)
    (a33 : PySem.W.nsIn K mainGlobals "law" = some (some (.ref f33)))
    (l33 : K.lookup f33 = some ⟨oc33, od33, .func (PySem.W.fnOf "law" "law" (defArgs s_law) (defBody s_law) (defScope s_law) .none kV33 dc33 pm33 an33 cd33 ct33), sl33⟩)
    (c33 : PySem.W.codeIn K cd33 "law" = true) (k33 : PySem.W.keepIn K (.ref f33) = true)
    (aC0 : PySem.W.nsIn K mainGlobals "BadProgram" = some (some (.ref C0))) (q0 : PySem.W.excIn K C0 [.type "ValueError", .type "Exception", .type "BaseException", .type "object"] "ValueError.__new__" = true) (kC0 : PySem.W.keepIn K (.ref C0) = true) (sC0 : PySem.W.subIn K (.ref C0) (.type "BaseException") = some true) (tC0 : PySem.W.typeIn K (.ref C0) = some (.type "type")) (iC0 : PySem.W.isClsIn K C0 = true)
    (aC1 : PySem.W.nsIn K mainGlobals "BadArgument" = some (some (.ref C1))) (q1 : PySem.W.excIn K C1 [.type "ValueError", .type "Exception", .type "BaseException", .type "object"] "ValueError.__new__" = true) (kC1 : PySem.W.keepIn K (.ref C1) = true) (sC1 : PySem.W.subIn K (.ref C1) (.type "BaseException") = some true) (tC1 : PySem.W.typeIn K (.ref C1) = some (.type "type")) (iC1 : PySem.W.isClsIn K C1 = true)
    (u0_0 : PySem.W.subIn K (.ref C0) (.ref C0) = some true)
    (u0_1 : PySem.W.subIn K (.ref C0) (.ref C1) = some false)
    (u1_0 : PySem.W.subIn K (.ref C1) (.ref C0) = some false)
    (u1_1 : PySem.W.subIn K (.ref C1) (.ref C1) = some true)
    (z_bool : PySem.W.nsIn K mainGlobals "bool" = some none)
    (z_int : PySem.W.nsIn K mainGlobals "int" = some none)
    (z_isinstance : PySem.W.nsIn K mainGlobals "isinstance" = some none)
    (z_len : PySem.W.nsIn K mainGlobals "len" = some none)
    (z_list : PySem.W.nsIn K mainGlobals "list" = some none)
    (z_max : PySem.W.nsIn K mainGlobals "max" = some none)
    (z_min : PySem.W.nsIn K mainGlobals "min" = some none)
    (z_range : PySem.W.nsIn K mainGlobals "range" = some none)
    (z_str : PySem.W.nsIn K mainGlobals "str" = some none)
    (z_sum : PySem.W.nsIn K mainGlobals "sum" = some none)
    (z_tuple : PySem.W.nsIn K mainGlobals "tuple" = some none)
    (v_MOST_AMOUNT : PySem.W.nsIn K mainGlobals "MOST_AMOUNT" = some (some (.int 8 t_MOST_AMOUNT)))
    (v_MOST_ROOMS : PySem.W.nsIn K mainGlobals "MOST_ROOMS" = some (some (.int 8 t_MOST_ROOMS)))
    (v_MOST_WAYS : PySem.W.nsIn K mainGlobals "MOST_WAYS" = some (some (.int 24 t_MOST_WAYS))) :
    ∃ fd : FuncData, (∀ (s : Shared) (v : Value), BindsTo s fd ⟨[v], []⟩ [("script", v)]) ∧ ∀ base : Heap, K.In base → base.Ns mainGlobals mg → FnOk l.prog w K mg base (L2.CX l.prog w) 41 fa fd ["script"] (spLaw K) := by
  have e := hfa.symm.trans (PySem.W.mg_of X G a33)
  cases e
  have F0 := fun_mk (st := s_law_mixed) l0 c0 k0
  have D0 : Df K mg "_law_mixed" s_law_mixed ["number", "k"] := ⟨_, _, F0, PySem.W.mg_of X G a0, F0.binds (ps := ["number", "k"]) fun _ _ _ _ _ _ us hl => match us, hl with | [_, _], _ => rfl⟩
  have F1 := fun_mk (st := s_law_draw) l1 c1 k1
  have D1 : Df K mg "_law_draw" s_law_draw ["draws"] := ⟨_, _, F1, PySem.W.mg_of X G a1, F1.binds (ps := ["draws"]) fun _ _ _ _ _ _ us hl => match us, hl with | [_], _ => rfl⟩
  have F2 := fun_mk (st := s_law_arena) l2 c2 k2
  have D2 : Df K mg "_law_arena" s_law_arena ["draws", "rooms"] := ⟨_, _, F2, PySem.W.mg_of X G a2, F2.binds (ps := ["draws", "rooms"]) fun _ _ _ _ _ _ us hl => match us, hl with | [_, _], _ => rfl⟩
  have F3 := fun_mk (st := s_law_prices) l3 c3 k3
  have D3 : Df K mg "_law_prices" s_law_prices ["owners", "ways"] := ⟨_, _, F3, PySem.W.mg_of X G a3, F3.binds (ps := ["owners", "ways"]) fun _ _ _ _ _ _ us hl => match us, hl with | [_, _], _ => rfl⟩
  have F4 := fun_mk (st := s_law_numbers) l4 c4 k4
  have D4 : Df K mg "_law_numbers" s_law_numbers ["script"] := ⟨_, _, F4, PySem.W.mg_of X G a4, F4.binds (ps := ["script"]) fun _ _ _ _ _ _ us hl => match us, hl with | [_], _ => rfl⟩
  have F5 := fun_mk (st := s_law_all_equal) l5 c5 k5
  have D5 : Df K mg "_law_all_equal" s_law_all_equal ["actual", "due"] := ⟨_, _, F5, PySem.W.mg_of X G a5, F5.binds (ps := ["actual", "due"]) fun _ _ _ _ _ _ us hl => match us, hl with | [_, _], _ => rfl⟩
  have F6 := fun_mk (st := s_law_equal) l6 c6 k6
  have D6 : Df K mg "_law_equal" s_law_equal ["actual", "due"] := ⟨_, _, F6, PySem.W.mg_of X G a6, F6.binds (ps := ["actual", "due"]) fun _ _ _ _ _ _ us hl => match us, hl with | [_, _], _ => rfl⟩
  have F7 := fun_mk (st := s_law_plans) l7 c7 k7
  have D7 : Df K mg "_law_plans" s_law_plans ["owners", "ways", "player"] := ⟨_, _, F7, PySem.W.mg_of X G a7, F7.binds (ps := ["owners", "ways", "player"]) fun _ _ _ _ _ _ us hl => match us, hl with | [_, _, _], _ => rfl⟩
  have F8 := fun_mk (st := s_is_tuple) l8 c8 k8
  have D8 : Df K mg "is_tuple" s_is_tuple ["value", "size"] := ⟨_, _, F8, PySem.W.mg_of X G a8, F8.binds (ps := ["value", "size"]) fun _ _ _ _ _ _ us hl => match us, hl with | [_, _], _ => rfl⟩
  have F9 := fun_mk (st := s_is_within) l9 c9 k9
  have D9 : Df K mg "is_within" s_is_within ["value", "least", "most"] := ⟨_, _, F9, PySem.W.mg_of X G a9, F9.binds (ps := ["value", "least", "most"]) fun _ _ _ _ _ _ us hl => match us, hl with | [_, _, _], _ => rfl⟩
  have F10 := fun_mk (st := s_are_owners) l10 c10 k10
  have D10 : Df K mg "are_owners" s_are_owners ["value", "most"] := ⟨_, _, F10, PySem.W.mg_of X G a10, F10.binds (ps := ["value", "most"]) fun _ _ _ _ _ _ us hl => match us, hl with | [_, _], _ => rfl⟩
  have F11 := fun_mk (st := s_is_way) l11 c11 k11
  have D11 : Df K mg "is_way" s_is_way ["value", "rooms"] := ⟨_, _, F11, PySem.W.mg_of X G a11, F11.binds (ps := ["value", "rooms"]) fun _ _ _ _ _ _ us hl => match us, hl with | [_, _], _ => rfl⟩
  have F12 := fun_mk (st := s_ways_from) l12 c12 k12
  have D12 : Df K mg "ways_from" s_ways_from ["arena", "room"] := ⟨_, _, F12, PySem.W.mg_of X G a12, F12.binds (ps := ["arena", "room"]) fun _ _ _ _ _ _ us hl => match us, hl with | [_, _], _ => rfl⟩
  have F13 := fun_mk (st := s_check_arena) l13 c13 k13
  have D13 : Df K mg "check_arena" s_check_arena ["arena"] := ⟨_, _, F13, PySem.W.mg_of X G a13, F13.binds (ps := ["arena"]) fun _ _ _ _ _ _ us hl => match us, hl with | [_], _ => rfl⟩
  have F14 := fun_mk (st := s_asked) l14 c14 k14
  have D14 : Df K mg "asked" s_asked ["number", "amount"] := ⟨_, _, F14, PySem.W.mg_of X G a14, F14.binds (ps := ["number", "amount"]) fun _ _ _ _ _ _ us hl => match us, hl with | [_, _], _ => rfl⟩
  have F15 := fun_mk (st := s_least_of) l15 c15 k15
  have D15 : Df K mg "least_of" s_least_of ["numbers"] := ⟨_, _, F15, PySem.W.mg_of X G a15, F15.binds (ps := ["numbers"]) fun _ _ _ _ _ _ us hl => match us, hl with | [_], _ => rfl⟩
  have F16 := fun_mk (st := s_greatest_of) l16 c16 k16
  have D16 : Df K mg "greatest_of" s_greatest_of ["numbers"] := ⟨_, _, F16, PySem.W.mg_of X G a16, F16.binds (ps := ["numbers"]) fun _ _ _ _ _ _ us hl => match us, hl with | [_], _ => rfl⟩
  have F17 := fun_mk (st := s_wanted) l17 c17 k17
  have D17 : Df K mg "wanted" s_wanted ["owners", "ways", "choices", "prices", "room"] := ⟨_, _, F17, PySem.W.mg_of X G a17, F17.binds (ps := ["owners", "ways", "choices", "prices", "room"]) fun _ _ _ _ _ _ us hl => match us, hl with | [_, _, _, _, _], _ => rfl⟩
  have F18 := fun_mk (st := s_is_more) l18 c18 k18
  have D18 : Df K mg "is_more" s_is_more ["one", "other"] := ⟨_, _, F18, PySem.W.mg_of X G a18, F18.binds (ps := ["one", "other"]) fun _ _ _ _ _ _ us hl => match us, hl with | [_, _], _ => rfl⟩
  have F19 := fun_mk (st := s_starts_with) l19 c19 k19
  have D19 : Df K mg "starts_with" s_starts_with ["owners", "ways", "choices"] := ⟨_, _, F19, PySem.W.mg_of X G a19, F19.binds (ps := ["owners", "ways", "choices"]) fun _ _ _ _ _ _ us hl => match us, hl with | [_, _, _], _ => rfl⟩
  have F20 := fun_mk (st := s_all_choices) l20 c20 k20
  have D20 : Df K mg "all_choices" s_all_choices ["arena"] := ⟨_, _, F20, PySem.W.mg_of X G a20, F20.binds (ps := ["arena"]) fun _ _ _ _ _ _ us hl => match us, hl with | [_], _ => rfl⟩
  have F21 := fun_mk (st := s_least_starts) l21 c21 k21
  have D21 : Df K mg "least_starts" s_least_starts ["arena"] := ⟨_, _, F21, PySem.W.mg_of X G a21, F21.binds (ps := ["arena"]) fun _ _ _ _ _ _ us hl => match us, hl with | [_], _ => rfl⟩
  have F22 := fun_mk (st := s_check_player) l22 c22 k22
  have D22 : Df K mg "check_player" s_check_player ["player"] := ⟨_, _, F22, PySem.W.mg_of X G a22, F22.binds (ps := ["player"]) fun _ _ _ _ _ _ us hl => match us, hl with | [_], _ => rfl⟩
  have F23 := fun_mk (st := s_is_plan_of) l23 c23 k23
  have D23 : Df K mg "is_plan_of" s_is_plan_of ["arena", "player", "plan"] := ⟨_, _, F23, PySem.W.mg_of X G a23, F23.binds (ps := ["arena", "player", "plan"]) fun _ _ _ _ _ _ us hl => match us, hl with | [_, _, _], _ => rfl⟩
  have F24 := fun_mk (st := s_is_plan) l24 c24 k24
  have D24 : Df K mg "is_plan" s_is_plan ["arena", "player", "plan"] := ⟨_, _, F24, PySem.W.mg_of X G a24, F24.binds (ps := ["arena", "player", "plan"]) fun _ _ _ _ _ _ us hl => match us, hl with | [_, _, _], _ => rfl⟩
  have F25 := fun_mk (st := s_law_refused) l25 c25 k25
  have D25 : Df K mg "_law_refused" s_law_refused ["sort", "arena", "player"] := ⟨_, _, F25, PySem.W.mg_of X G a25, F25.binds (ps := ["sort", "arena", "player"]) fun _ _ _ _ _ _ us hl => match us, hl with | [_, _, _], _ => rfl⟩
  have F26 := fun_mk (st := s_law_lesser) l26 c26 k26
  have D26 : Df K mg "_law_lesser" s_law_lesser ["one", "other"] := ⟨_, _, F26, PySem.W.mg_of X G a26, F26.binds (ps := ["one", "other"]) fun _ _ _ _ _ _ us hl => match us, hl with | [_, _], _ => rfl⟩
  have F27 := fun_mk (st := s_law_greater) l27 c27 k27
  have D27 : Df K mg "_law_greater" s_law_greater ["one", "other"] := ⟨_, _, F27, PySem.W.mg_of X G a27, F27.binds (ps := ["one", "other"]) fun _ _ _ _ _ _ us hl => match us, hl with | [_, _], _ => rfl⟩
  have F28 := fun_mk (st := s_kept_to) l28 c28 k28
  have D28 : Df K mg "kept_to" s_kept_to ["arena", "plan"] := ⟨_, _, F28, PySem.W.mg_of X G a28, F28.binds (ps := ["arena", "plan"]) fun _ _ _ _ _ _ us hl => match us, hl with | [_, _], _ => rfl⟩
  have F29 := fun_mk (st := s_starts_by) l29 c29 k29
  have D29 : Df K mg "starts_by" s_starts_by ["arena", "player", "plan"] := ⟨_, _, F29, PySem.W.mg_of X G a29, F29.binds (ps := ["arena", "player", "plan"]) fun _ _ _ _ _ _ us hl => match us, hl with | [_, _, _], _ => rfl⟩
  have F30 := fun_mk (st := s_law_kept) l30 c30 k30
  have D30 : Df K mg "_law_kept" s_law_kept ["owners", "ways", "plan"] := ⟨_, _, F30, PySem.W.mg_of X G a30, F30.binds (ps := ["owners", "ways", "plan"]) fun _ _ _ _ _ _ us hl => match us, hl with | [_, _, _], _ => rfl⟩
  have F31 := fun_mk (st := s_law_alone) l31 c31 k31
  have D31 : Df K mg "_law_alone" s_law_alone ["ways", "room"] := ⟨_, _, F31, PySem.W.mg_of X G a31, F31.binds (ps := ["ways", "room"]) fun _ _ _ _ _ _ us hl => match us, hl with | [_, _], _ => rfl⟩
  have F32 := fun_mk (st := s_law_kept_too) l32 c32 k32
  have D32 : Df K mg "_law_kept_too" s_law_kept_too ["owners", "ways", "plan", "other"] := ⟨_, _, F32, PySem.W.mg_of X G a32, F32.binds (ps := ["owners", "ways", "plan", "other"]) fun _ _ _ _ _ _ us hl => match us, hl with | [_, _, _, _], _ => rfl⟩
  have F33 := fun_mk (st := s_law) l33 c33 k33
  have T : Tx K mg (fun n => match n with | 0 => .ref C0 | _ => .ref C1) := {
    n_bool := PySem.W.mg_none_of X G z_bool
    n_int := PySem.W.mg_none_of X G z_int
    n_isinstance := PySem.W.mg_none_of X G z_isinstance
    n_len := PySem.W.mg_none_of X G z_len
    n_list := PySem.W.mg_none_of X G z_list
    n_max := PySem.W.mg_none_of X G z_max
    n_min := PySem.W.mg_none_of X G z_min
    n_range := PySem.W.mg_none_of X G z_range
    n_str := PySem.W.mg_none_of X G z_str
    n_sum := PySem.W.mg_none_of X G z_sum
    n_tuple := PySem.W.mg_none_of X G z_tuple
    c_MOST_AMOUNT := ⟨_, PySem.W.mg_of X G v_MOST_AMOUNT⟩
    c_MOST_ROOMS := ⟨_, PySem.W.mg_of X G v_MOST_ROOMS⟩
    c_MOST_WAYS := ⟨_, PySem.W.mg_of X G v_MOST_WAYS⟩
    e_0 := ⟨C0, rfl, PySem.W.mg_of X G aC0, q0, kC0, sC0, tC0⟩
    x_0 := fun m hm => match m, hm with | 0, _ => exm_of sC0 iC0 tC0 u0_0 | 1, _ => exm_of sC0 iC0 tC0 u1_0
    g_0 := PySem.W.mg_of X G aC0
    e_1 := ⟨C1, rfl, PySem.W.mg_of X G aC1, q1, kC1, sC1, tC1⟩
    x_1 := fun m hm => match m, hm with | 0, _ => exm_of sC1 iC1 tC1 u0_1 | 1, _ => exm_of sC1 iC1 tC1 u1_1
    g_1 := PySem.W.mg_of X G aC1
  }
  refine ⟨PySem.W.fnOf "law" "law" (defArgs s_law) (defBody s_law) (defScope s_law) .none kV33 dc33 pm33 an33 cd33 ct33, fun s v => .of_eq rfl, fun base _ _ => ?_⟩
  have K_law_mixed := ok_law_mixed (P := l.prog) (w := w) (base := base) T D0 
  have K_law_draw := ok_law_draw (P := l.prog) (w := w) (base := base) T D1 (k_law_mixed := K_law_mixed)
  have K_law_arena := ok_law_arena (P := l.prog) (w := w) (base := base) T D2 (k_law_draw := K_law_draw)
  have K_law_prices := ok_law_prices (P := l.prog) (w := w) (base := base) T D3 
  have K_law_numbers := ok_law_numbers (P := l.prog) (w := w) (base := base) T D4 (k_law_mixed := K_law_mixed) numbers_ok
  have K_law_equal := ok_law_equal40 (P := l.prog) (w := w) (base := base) T D6 D5
  have K_law_plans := ok_law_plans (P := l.prog) (w := w) (base := base) T D7 
  have K_is_tuple := ok_is_tuple (P := l.prog) (w := w) (base := base) T D8 
  have K_is_within := ok_is_within (P := l.prog) (w := w) (base := base) T D9 
  have K_are_owners := ok_are_owners (P := l.prog) (w := w) (base := base) T D10 (k_is_within := K_is_within)
  have K_is_way := ok_is_way (P := l.prog) (w := w) (base := base) T D11 (k_is_tuple := K_is_tuple) (k_is_within := K_is_within)
  have K_ways_from := ok_ways_from (P := l.prog) (w := w) (base := base) T D12 
  have K_check_arena := ok_check_arena (P := l.prog) (w := w) (base := base) T D13 (k_is_tuple := K_is_tuple) (k_are_owners := K_are_owners) (k_is_way := K_is_way) (k_ways_from := K_ways_from)
  have K_asked := ok_asked (P := l.prog) (w := w) (base := base) T D14 
  have K_least_of := ok_least_of (P := l.prog) (w := w) (base := base) T D15 
  have K_greatest_of := ok_greatest_of (P := l.prog) (w := w) (base := base) T D16 
  have K_wanted := ok_wanted (P := l.prog) (w := w) (base := base) T D17 (k_asked := K_asked) (k_least_of := K_least_of) (k_greatest_of := K_greatest_of)
  have K_is_more := ok_is_more (P := l.prog) (w := w) (base := base) T D18 
  have K_starts_with := ok_starts_with (P := l.prog) (w := w) (base := base) T D19 (k_wanted := K_wanted) (k_is_more := K_is_more)
  have K_all_choices := ok_all_choices (P := l.prog) (w := w) (base := base) T D20 (k_ways_from := K_ways_from)
  have K_least_starts := ok_least_starts (P := l.prog) (w := w) (base := base) T D21 (k_check_arena := K_check_arena) (k_starts_with := K_starts_with) (k_all_choices := K_all_choices)
  have K_check_player := ok_check_player (P := l.prog) (w := w) (base := base) T D22 (k_is_within := K_is_within)
  have K_is_plan_of := ok_is_plan_of (P := l.prog) (w := w) (base := base) T D23 (k_is_tuple := K_is_tuple) (k_is_within := K_is_within)
  have K_is_plan := ok_is_plan (P := l.prog) (w := w) (base := base) T D24 (k_check_arena := K_check_arena) (k_check_player := K_check_player) (k_is_plan_of := K_is_plan_of)
  have K_law_refused := ok_law_refused (P := l.prog) (w := w) (base := base) T D25 (k_least_starts := K_least_starts) (k_is_plan := K_is_plan)
  have K_law_lesser := ok_law_lesser (P := l.prog) (w := w) (base := base) T D26 
  have K_law_greater := ok_law_greater (P := l.prog) (w := w) (base := base) T D27 
  have K_kept_to := ok_kept_to (P := l.prog) (w := w) (base := base) T D28 (k_all_choices := K_all_choices)
  have K_starts_by := ok_starts_by (P := l.prog) (w := w) (base := base) T D29 (k_check_arena := K_check_arena) (k_check_player := K_check_player) (k_is_plan_of := K_is_plan_of) (k_starts_with := K_starts_with) (k_kept_to := K_kept_to)
  have K_law_kept := ok_law_kept (P := l.prog) (w := w) (base := base) T D30 
  have K_law_alone := ok_law_alone (P := l.prog) (w := w) (base := base) T D31 
  have K_law_kept_too := ok_law_kept_too (P := l.prog) (w := w) (base := base) T D32 
  exact ok_law T F33 K_law_numbers (k_law_draw := K_law_draw) (k_law_arena := K_law_arena) (k_law_prices := K_law_prices) (k_law_equal := K_law_equal) (k_least_starts := K_least_starts) (k_law_plans := K_law_plans) (k_law_alone := K_law_alone) (k_law_kept_too := K_law_kept_too) (k_law_greater := K_law_greater) (k_law_lesser := K_law_lesser) (k_is_plan := K_is_plan) (k_starts_by := K_starts_by) (k_law_kept := K_law_kept) (k_law_refused := K_law_refused) law_runs
end
end K
open PySem PySem.W PyProof.Rows
set_option maxRecDepth 100000 in
set_option maxHeartbeats 0 in
theorem PySem.Challenge.cw_everypurse_k30_least_starts_holds : PySem.Challenge.rw_everypurse_k30_least_starts.Holds := by
  w_on; o_law; k_head; (case hw => w_witness2)
  k_fill
  refine L2.walk_of (l := PySem.Challenge.rw_everypurse_k30_least_starts) (n := 63) (k := 41) (x := "script") (CX := fun w => L2.CX (PySem.Challenge.rw_everypurse_k30_least_starts).prog w) (sp := fun w => DL.spLaw _) rfl (by decide) rfl ⟨rfl, by decide, by decide⟩ (fun w h Y => PySem.W.kIn_of Y) ?F (fun w H a ns hl ho hS => ⟨a, ns, rfl, hS, hl, ho, fun _ => rfl⟩) (fun _ _ _ _ _ h => K.cx_no h)
  case F =>
    intro w mg fa h KX G hmg
    refine' K.all_mk KX G hmg ?a0 ?l0 ?c0 ?k0 ?a1 ?l1 ?c1 ?k1 ?a2 ?l2 ?c2 ?k2 ?a3 ?l3 ?c3 ?k3 ?a4 ?l4 ?c4 ?k4 ?a5 ?l5 ?c5 ?k5 ?a6 ?l6 ?c6 ?k6 ?a7 ?l7 ?c7 ?k7 ?a8 ?l8 ?c8 ?k8 ?a9 ?l9 ?c9 ?k9 ?a10 ?l10 ?c10 ?k10 ?a11 ?l11 ?c11 ?k11 ?a12 ?l12 ?c12 ?k12 ?a13 ?l13 ?c13 ?k13 ?a14 ?l14 ?c14 ?k14 ?a15 ?l15 ?c15 ?k15 ?a16 ?l16 ?c16 ?k16 ?a17 ?l17 ?c17 ?k17 ?a18 ?l18 ?c18 ?k18 ?a19 ?l19 ?c19 ?k19 ?a20 ?l20 ?c20 ?k20 ?a21 ?l21 ?c21 ?k21 ?a22 ?l22 ?c22 ?k22 ?a23 ?l23 ?c23 ?k23 ?a24 ?l24 ?c24 ?k24 ?a25 ?l25 ?c25 ?k25 ?a26 ?l26 ?c26 ?k26 ?a27 ?l27 ?c27 ?k27 ?a28 ?l28 ?c28 ?k28 ?a29 ?l29 ?c29 ?k29 ?a30 ?l30 ?c30 ?k30 ?a31 ?l31 ?c31 ?k31 ?a32 ?l32 ?c32 ?k32 ?a33 ?l33 ?c33 ?k33 ?aC0 ?q0 ?kC0 ?sC0 ?tC0 ?iC0 ?aC1 ?q1 ?kC1 ?sC1 ?tC1 ?iC1 ?u0_0 ?u0_1 ?u1_0 ?u1_1 ?z_bool ?z_int ?z_isinstance ?z_len ?z_list ?z_max ?z_min ?z_range ?z_str ?z_sum ?z_tuple ?v_MOST_AMOUNT ?v_MOST_ROOMS ?v_MOST_WAYS
    (case a0 => k_is)
    (case l0 => k_is)
    (case c0 => k_is)
    (case k0 => k_is)
    (case a1 => k_is)
    (case l1 => k_is)
    (case c1 => k_is)
    (case k1 => k_is)
    (case a2 => k_is)
    (case l2 => k_is)
    (case c2 => k_is)
    (case k2 => k_is)
    (case a3 => k_is)
    (case l3 => k_is)
    (case c3 => k_is)
    (case k3 => k_is)
    (case a4 => k_is)
    (case l4 => k_is)
    (case c4 => k_is)
    (case k4 => k_is)
    (case a5 => k_is)
    (case l5 => k_is)
    (case c5 => k_is)
    (case k5 => k_is)
    (case a6 => k_is)
    (case l6 => k_is)
    (case c6 => k_is)
    (case k6 => k_is)
    (case a7 => k_is)
    (case l7 => k_is)
    (case c7 => k_is)
    (case k7 => k_is)
    (case a8 => k_is)
    (case l8 => k_is)
    (case c8 => k_is)
    (case k8 => k_is)
    (case a9 => k_is)
    (case l9 => k_is)
    (case c9 => k_is)
    (case k9 => k_is)
    (case a10 => k_is)
    (case l10 => k_is)
    (case c10 => k_is)
    (case k10 => k_is)
    (case a11 => k_is)
    (case l11 => k_is)
    (case c11 => k_is)
    (case k11 => k_is)
    (case a12 => k_is)
    (case l12 => k_is)
    (case c12 => k_is)
    (case k12 => k_is)
    (case a13 => k_is)
    (case l13 => k_is)
    (case c13 => k_is)
    (case k13 => k_is)
    (case a14 => k_is)
    (case l14 => k_is)
    (case c14 => k_is)
    (case k14 => k_is)
    (case a15 => k_is)
    (case l15 => k_is)
    (case c15 => k_is)
    (case k15 => k_is)
    (case a16 => k_is)
    (case l16 => k_is)
    (case c16 => k_is)
    (case k16 => k_is)
    (case a17 => k_is)
    (case l17 => k_is)
    (case c17 => k_is)
    (case k17 => k_is)
    (case a18 => k_is)
    (case l18 => k_is)
    (case c18 => k_is)
    (case k18 => k_is)
    (case a19 => k_is)
    (case l19 => k_is)
    (case c19 => k_is)
    (case k19 => k_is)
    (case a20 => k_is)
    (case l20 => k_is)
    (case c20 => k_is)
    (case k20 => k_is)
    (case a21 => k_is)
    (case l21 => k_is)
    (case c21 => k_is)
    (case k21 => k_is)
    (case a22 => k_is)
    (case l22 => k_is)
    (case c22 => k_is)
    (case k22 => k_is)
    (case a23 => k_is)
    (case l23 => k_is)
    (case c23 => k_is)
    (case k23 => k_is)
    (case a24 => k_is)
    (case l24 => k_is)
    (case c24 => k_is)
    (case k24 => k_is)
    (case a25 => k_is)
    (case l25 => k_is)
    (case c25 => k_is)
    (case k25 => k_is)
    (case a26 => k_is)
    (case l26 => k_is)
    (case c26 => k_is)
    (case k26 => k_is)
    (case a27 => k_is)
    (case l27 => k_is)
    (case c27 => k_is)
    (case k27 => k_is)
    (case a28 => k_is)
    (case l28 => k_is)
    (case c28 => k_is)
    (case k28 => k_is)
    (case a29 => k_is)
    (case l29 => k_is)
    (case c29 => k_is)
    (case k29 => k_is)
    (case a30 => k_is)
    (case l30 => k_is)
    (case c30 => k_is)
    (case k30 => k_is)
    (case a31 => k_is)
    (case l31 => k_is)
    (case c31 => k_is)
    (case k31 => k_is)
    (case a32 => k_is)
    (case l32 => k_is)
    (case c32 => k_is)
    (case k32 => k_is)
    (case a33 => k_is)
    (case l33 => k_is)
    (case c33 => k_is)
    (case k33 => k_is)
    (case aC0 => k_is)
    (case q0 => k_exc)
    (case kC0 => k_is)
    (case sC0 => k_is)
    (case tC0 => k_is)
    (case iC0 => k_is)
    (case aC1 => k_is)
    (case q1 => k_exc)
    (case kC1 => k_is)
    (case sC1 => k_is)
    (case tC1 => k_is)
    (case iC1 => k_is)
    (case u0_0 => k_is)
    (case u0_1 => k_is)
    (case u1_0 => k_is)
    (case u1_1 => k_is)
    (case z_bool => k_is)
    (case z_int => k_is)
    (case z_isinstance => k_is)
    (case z_len => k_is)
    (case z_list => k_is)
    (case z_max => k_is)
    (case z_min => k_is)
    (case z_range => k_is)
    (case z_str => k_is)
    (case z_sum => k_is)
    (case z_tuple => k_is)
    (case v_MOST_AMOUNT => k_is)
    (case v_MOST_ROOMS => k_is)
    (case v_MOST_WAYS => k_is)


