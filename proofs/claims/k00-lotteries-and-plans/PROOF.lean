import PyProof.Rows.All
import Wide.All
import OpenK.AllK
import Wide.FinOn
import HandS.ForMost
import HandS.ForExc
import HandS.IsInst
import HandS.Deep
import HandS.TupAny
import HandS.TupMul
import HandS.Flow
import HandS.Style
import HandS.Conv
import HandS.SortInts
import HandS.TryMany
import HandS.WideBits
import PySem.Challenge.RW_everypurse_k00_lotteries_and_plans
set_option Elab.async false
set_option linter.all false
set_option maxRecDepth 100000
set_option maxHeartbeats 400000
/-! The data layer: a def's body by a plain Lean function over data (PyData), the heap hidden.
Part 1: data in a heap, results, the readings of expressions. -/
namespace DL
open PySem PySem.Spec PyProof.Rows L2

/-! ### data in a heap -/
mutual
inductive Rp (S : Hp) : V → PyData → Prop
  | non : Rp S .non .none
  | bl (b : Bool) : Rp S (.bl b) (.bool b)
  | int (i : Int) : Rp S (.int i) (.int i)
  | str (x : Str) : Rp S (.str x) (.str x)
  | lst {a : Addr} {xs : List V} {ds : List PyData} : S a = some (.lst xs) → Rps S xs ds → Rp S (.ref a) (.list ds)
  | tup {a : Addr} {xs : List V} {ds : List PyData} : S a = some (.tup xs) → Rps S xs ds → Rp S (.ref a) (.tuple ds)
inductive Rps (S : Hp) : List V → List PyData → Prop
  | nil : Rps S [] []
  | cons {v : V} {d : PyData} {vs : List V} {ds : List PyData} : Rp S v d → Rps S vs ds → Rps S (v :: vs) (d :: ds)
end

mutual
theorem Rp.mono {S S' : Hp} (h : Same S S') : ∀ {d : PyData} {v : V}, Rp S v d → Rp S' v d
  | _, _, .non => .non
  | _, _, .bl b => .bl b
  | _, _, .int i => .int i
  | _, _, .str x => .str x
  | _, _, .lst e r => .lst (h _ _ e) (Rps.mono h r)
  | _, _, .tup e r => .tup (h _ _ e) (Rps.mono h r)
theorem Rps.mono {S S' : Hp} (h : Same S S') : ∀ {ds : List PyData} {vs : List V}, Rps S vs ds → Rps S' vs ds
  | _, _, .nil => .nil
  | _, _, .cons r t => .cons (Rp.mono h r) (Rps.mono h t)
end
mutual
theorem Rp.dp {K : PySem.W.Frag} {S H : Hp} (h : Same S H) : ∀ {d : PyData} {v : V}, Rp S v d → Dp K H v d
  | _, _, .non => .non
  | _, _, .bl b => .bl b
  | _, _, .int i => .int i
  | _, _, .str x => .str x
  | _, _, .lst e r => .lst (.of (h _ _ e)) (Rps.dp h r)
  | _, _, .tup e r => .tup (.of (h _ _ e)) (Rps.dp h r)
theorem Rps.dp {K : PySem.W.Frag} {S H : Hp} (h : Same S H) : ∀ {ds : List PyData} {vs : List V}, Rps S vs ds → DpAll K H vs ds
  | _, _, .nil => .nil
  | _, _, .cons r t => .cons (Rp.dp h r) (Rps.dp h t)
end
mutual
theorem Rp.one {S : Hp} : ∀ {d d' : PyData} {v : V}, Rp S v d → Rp S v d' → d = d'
  | _, _, _, .non, .non => rfl
  | _, _, _, .bl b, .bl _ => rfl
  | _, _, _, .int i, .int _ => rfl
  | _, _, _, .str x, .str _ => rfl
  | _, _, _, .lst e r, .lst e' r' => by
    rw [e] at e'
    injection e' with e'
    injection e' with e'
    subst e'
    rw [Rps.one r r']
  | _, _, _, .tup e r, .tup e' r' => by
    rw [e] at e'
    injection e' with e'
    injection e' with e'
    subst e'
    rw [Rps.one r r']
  | _, _, _, .lst e r, .tup e' r' => by
    rw [e] at e'
    injection e' with e'
    cases e'
  | _, _, _, .tup e r, .lst e' r' => by
    rw [e] at e'
    injection e' with e'
    cases e'
theorem Rps.one {S : Hp} : ∀ {ds ds' : List PyData} {vs : List V}, Rps S vs ds → Rps S vs ds' → ds = ds'
  | _, _, _, .nil, .nil => rfl
  | _, _, _, .cons r t, .cons r' t' => by rw [Rp.one r r', Rps.one t t']
end
theorem Rps.length {S : Hp} : ∀ {ds : List PyData} {vs : List V}, Rps S vs ds → vs.length = ds.length
  | _, _, .nil => rfl
  | _, _, .cons _ t => by rw [List.length_cons, List.length_cons, Rps.length t]
theorem Rps.get {S : Hp} : ∀ {ds : List PyData} {vs : List V} {i : Nat} {v : V}, Rps S vs ds → vs[i]? = some v → ∃ d, ds[i]? = some d ∧ Rp S v d
  | _, _, _, _, .nil, e => by simp at e
  | _, _, 0, _, .cons r _, e => by simp at e; subst e; exact ⟨_, rfl, r⟩
  | _, _, i + 1, v, .cons _ t, e => by
    obtain ⟨d, h1, h2⟩ := Rps.get (i := i) (v := v) t (by simpa using e)
    exact ⟨d, by simpa using h1, h2⟩
theorem Rps.getD {S : Hp} : ∀ {ds : List PyData} {vs : List V} {i : Nat} {d : PyData}, Rps S vs ds → ds[i]? = some d → ∃ v, vs[i]? = some v ∧ Rp S v d
  | _, _, _, _, .nil, e => by simp at e
  | _, _, 0, _, .cons r _, e => by simp at e; subst e; exact ⟨_, rfl, r⟩
  | _, _, i + 1, v, .cons _ t, e => by
    obtain ⟨d, h1, h2⟩ := Rps.getD (i := i) (d := v) t (by simpa using e)
    exact ⟨d, by simpa using h1, h2⟩
theorem Rps.append {S : Hp} : ∀ {ds es : List PyData} {vs us : List V}, Rps S vs ds → Rps S us es → Rps S (vs ++ us) (ds ++ es)
  | _, _, _, _, .nil, s => s
  | _, _, _, _, .cons r t, s => .cons r (Rps.append t s)
theorem Rps.take {S : Hp} : ∀ {ds : List PyData} {vs : List V} (n : Nat), Rps S vs ds → Rps S (vs.take n) (ds.take n)
  | _, _, 0, _ => by simpa using Rps.nil
  | _, _, _ + 1, .nil => .nil
  | _, _, n + 1, .cons r t => .cons r (Rps.take n t)
theorem Rps.drop {S : Hp} : ∀ {ds : List PyData} {vs : List V} (n : Nat), Rps S vs ds → Rps S (vs.drop n) (ds.drop n)
  | _, _, 0, r => r
  | _, _, _ + 1, .nil => .nil
  | _, _, n + 1, .cons _ t => Rps.drop n t
theorem Rps.set {S : Hp} : ∀ {ds : List PyData} {vs : List V} {v : V} {d : PyData} (i : Nat), Rp S v d → Rps S vs ds → Rps S (vs.set i v) (ds.set i d)
  | _, _, _, _, _, _, .nil => .nil
  | _, _, _, _, 0, r, .cons _ t => .cons r t
  | _, _, _, _, i + 1, r, .cons q t => .cons q (Rps.set i r t)
theorem Rps.reverse {S : Hp} : ∀ {ds : List PyData} {vs : List V}, Rps S vs ds → Rps S vs.reverse ds.reverse
  | _, _, .nil => .nil
  | _, _, .cons r t => by
    rw [List.reverse_cons, List.reverse_cons]
    exact (Rps.reverse t).append (.cons r .nil)
theorem Rps.flatten {S : Hp} {vs : List V} {ds : List PyData} (r : Rps S vs ds) : ∀ n : Nat, Rps S (List.replicate n vs).flatten (List.replicate n ds).flatten
  | 0 => .nil
  | n + 1 => by
    rw [List.replicate_succ, List.replicate_succ, List.flatten_cons, List.flatten_cons]
    exact r.append (Rps.flatten r n)
theorem Rps.ints {S : Hp} : ∀ {ns : List Int} {vs : List V}, Rps S vs (ns.map PyData.int) → vs = ns.map V.int
  | [], _, .nil => rfl
  | n :: ns, _, .cons r t => by
    cases r
    rw [Rps.ints t, List.map_cons]
theorem Rps.of_ints {S : Hp} : ∀ ns : List Int, Rps S (ns.map V.int) (ns.map PyData.int)
  | [] => .nil
  | n :: ns => .cons (.int n) (Rps.of_ints ns)

/-! ### results -/
/-- the draws: the numbers, how many are taken; none: there are none yet -/
abbrev G := Option (List Int × Int)
inductive R (α : Type) where
  | ok (a : α) (g : G)
  /-- the exception of the class n -/
  | ex (n : Nat) (g : G)
  | bad
def R.bind {α β : Type} (r : R α) (f : α → G → R β) : R β := match r with
  | .ok a g => f a g
  | .ex n g => .ex n g
  | .bad => .bad
@[simp] theorem R.bind_ok {α β : Type} (a : α) (g : G) (f : α → G → R β) : (R.ok a g).bind f = f a g := rfl
@[simp] theorem R.bind_ex {α β : Type} (n : Nat) (g : G) (f : α → G → R β) : (R.ex n g : R α).bind f = .ex n g := rfl
@[simp] theorem R.bind_bad {α β : Type} (f : α → G → R β) : (R.bad : R α).bind f = .bad := rfl
def ofO {α : Type} (o : Option α) (g : G) : R α := match o with
  | some a => .ok a g
  | none => .bad
@[simp] theorem ofO_some {α : Type} (a : α) (g : G) : ofO (some a) g = .ok a g := rfl
@[simp] theorem ofO_none {α : Type} (g : G) : ofO (none : Option α) g = .bad := rfl

/-- a thing that one name alone holds, and that may be changed -/
inductive Ob where
  | lst (ds : List PyData)
  | dk (kvs : List (Key × PyData))
  | dt (kvs : List (List Key × PyData))
  | mat (rows : List (List PyData))
inductive ObAt (S : Hp) : Ob → HO → Prop
  | lst {ds : List PyData} {vs : List V} : Rps S vs ds → ObAt S (.lst ds) (.lst vs)
  | dk {kvs : List (Key × PyData)} {ws : List (Key × V)} : Paired (fun (p : Key × PyData) (q : Key × V) => p.1 = q.1 ∧ Rp S q.2 p.2) kvs ws → ObAt S (.dk kvs) (.dK ws)
  | dt {kvs : List (List Key × PyData)} {ws : List (List Key × V)} : Paired (fun (p : List Key × PyData) (q : List Key × V) => p.1 = q.1 ∧ Rp S q.2 p.2) kvs ws → ObAt S (.dt kvs) (.dT ws)
  | mat {rows : List (List PyData)} {cs : List Addr} : cs.length = rows.length → ObAt S (.mat rows) (.lst (cs.map V.ref))
theorem ObAt.mono {S S' : Hp} (h : Same S S') {b : Ob} {o : HO} (r : ObAt S b o) : ObAt S' b o := by
  cases r with
  | lst r => exact .lst (r.mono h)
  | dk r => exact .dk (Paired.mapP r fun _ _ z => ⟨z.1, z.2.mono h⟩)
  | dt r => exact .dt (Paired.mapP r fun _ _ z => ⟨z.1, z.2.mono h⟩)
  | mat e => exact .mat e
/-- a slot: nothing known; a datum; a thing of its own; the draws; the script -/
inductive Sl where
  | no | sh (d : PyData) | ow (o : Ob) | dr | sc
abbrev Nv := List Sl

/-- the ground of a call: the draws' object, whether it lives, what was shared and what there was at the entry -/
structure Bs where
  A : Addr
  live : Bool
  S : Hp
  H : Hp
  C : Addr
  N : V
def DrAt (B : Bs) (H S : Hp) : G → Prop
  | none => B.live = false
  | some (ns, i) => B.live = true ∧ H B.A = some (.lst [B.N, .int i]) ∧ Rp S B.N (.list (ns.map PyData.int))
structure Fin (B : Bs) (H S : Hp) (g : G) : Prop where
  sub : Same S H
  keep : ∀ a o, B.H a = some o → (B.live = true → a ≠ B.A) → H a = some o
  base : Same B.S S
  new : ∀ a, S a ≠ none → B.S a ≠ none ∨ B.H a = none
  there : ∀ a, B.H a ≠ none → H a ≠ none
  no : B.live = true → S B.A = none
  dr : DrAt B H S g
theorem DrAt.live {B : Bs} {H S : Hp} : ∀ {g : G}, DrAt B H S g → B.live = true → H B.A ≠ none
  | none, h, hl => by rw [show B.live = false from h] at hl; cases hl
  | some (ns, i), h, _ => by obtain ⟨_, e, _⟩ := h; rw [e]; simp
theorem DrAt.mono {B : Bs} {H S H' S' : Hp} (hs : Same S S') (hA : B.live = true → H' B.A = H B.A) : ∀ {g : G}, DrAt B H S g → DrAt B H' S' g
  | none, h => h
  | some (ns, i), h => by obtain ⟨hl, e, r⟩ := h; exact ⟨hl, by rw [hA hl]; exact e, r.mono hs⟩
/-- growth: what stands stays, but the draws' object -/
structure Gr (B : Bs) (H S H' S' : Hp) : Prop where
  keep : ∀ a o, H a = some o → (B.live = true → a ≠ B.A) → H' a = some o
  base : Same S S'
  new : ∀ a, S' a ≠ none → S a ≠ none ∨ H a = none
  there : ∀ a, H a ≠ none → H' a ≠ none
theorem Gr.refl {B : Bs} {H S : Hp} : Gr B H S H S := ⟨fun _ _ h _ => h, Same.refl _, fun _ h => .inl h, fun _ h => h⟩
theorem Gr.trans {B : Bs} {H S H1 S1 H2 S2 : Hp} (a : Gr B H S H1 S1) (b : Gr B H1 S1 H2 S2) : Gr B H S H2 S2 :=
  ⟨fun c o h n => b.keep c o (a.keep c o h n) n, a.base.trans b.base, fun c h => by
    rcases b.new c h with z | z
    · exact a.new c z
    · refine .inr ?_
      cases e : H c with
      | none => rfl
      | some o => exact absurd z (a.there c (by rw [e]; simp)), fun c h => b.there c (a.there c h)⟩
/-- the rows of a list of lists that nobody else holds -/
structure Rws (B : Bs) (H S : Hp) (rows : List (List PyData)) (cs : List Addr) : Prop where
  nd : cs.Nodup
  at_ : ∀ (k : Nat) (c : Addr) (row : List PyData), cs[k]? = some c → rows[k]? = some row → S c = none ∧ (B.live = true → c ≠ B.A) ∧ B.H c = none ∧ ∃ vs, H c = some (.lst vs) ∧ Rps S vs row
structure Good (B : Bs) (σ : L2.St) (H S : Hp) (ρ : Nv) (g : G) : Prop extends Fin B H S g where
  len : σ.length = ρ.length
  sh : ∀ (i : Nat) (d : PyData), ρ[i]? = some (.sh d) → ∃ v, σ[i]? = some (some v) ∧ Rp S v d
  dw : ∀ (i : Nat), ρ[i]? = some .dr → σ[i]? = some (some (.ref B.A)) ∧ B.live = true
  sw : ∀ (i : Nat), ρ[i]? = some .sc → σ[i]? = some (some (.ref B.C))
  ow : ∀ (i : Nat) (b : Ob), ρ[i]? = some (.ow b) → ∃ a o, σ[i]? = some (some (.ref a)) ∧ S a = none ∧ (B.live = true → a ≠ B.A) ∧ B.H a = none ∧ H a = some o ∧ ObAt S b o
  ap : ∀ (i j : Nat) (b c : Ob) (a : Addr), ρ[i]? = some (.ow b) → ρ[j]? = some (.ow c) → σ[i]? = some (some (.ref a)) → σ[j]? = some (some (.ref a)) → i = j
  mx : ∀ (i : Nat) (rows : List (List PyData)) (a : Addr) (cs : List Addr), ρ[i]? = some (.ow (.mat rows)) → σ[i]? = some (some (.ref a)) → H a = some (.lst (cs.map V.ref)) → Rws B H S rows cs ∧
    (∀ (j : Nat) (b : Ob) (a' : Addr), ρ[j]? = some (.ow b) → σ[j]? = some (some (.ref a')) → a' ∉ cs) ∧
    (∀ (j : Nat) (rows' : List (List PyData)) (a' : Addr) (cs' : List Addr), j ≠ i → ρ[j]? = some (.ow (.mat rows')) → σ[j]? = some (some (.ref a')) → H a' = some (.lst (cs'.map V.ref)) → ∀ c ∈ cs, c ∉ cs')

theorem none_of {B : Bs} {H S H' S' : Hp} (e : Gr B H S H' S') {a : Addr} (h1 : H a ≠ none) (h2 : S a = none) : S' a = none := by
  cases q : S' a with
  | none => rfl
  | some o =>
    rcases e.new a (by rw [q]; simp) with z | z
    · exact absurd h2 z
    · exact absurd z h1
theorem none_back {B : Bs} {H S H' S' : Hp} (e : Gr B H S H' S') {a : Addr} (h : H' a = none) : H a = none := by
  cases q : H a with
  | none => rfl
  | some o => exact absurd h (e.there a (by rw [q]; simp))
theorem addr_of {σ : L2.St} {i : Nat} {a b : Addr} (h : σ[i]? = some (some (.ref a))) (k : σ[i]? = some (some (.ref b))) : a = b := by
  rw [h] at k
  injection k with k
  injection k with k
  injection k with k
theorem refs_inj : ∀ {cs ds : List Addr}, cs.map V.ref = ds.map V.ref → cs = ds
  | [], [], _ => rfl
  | [], _ :: _, h => by cases h
  | _ :: _, [], h => by cases h
  | c :: cs, d :: ds, h => by
    rw [List.map_cons, List.map_cons] at h
    injection h with h1 h2
    injection h1 with h1
    rw [h1, refs_inj h2]
theorem Rws.row {B : Bs} {H S : Hp} {rows : List (List PyData)} {cs : List Addr} (R : Rws B H S rows cs) (hl : cs.length = rows.length) {c : Addr} (h : c ∈ cs) : S c = none ∧ (B.live = true → c ≠ B.A) ∧ B.H c = none ∧ H c ≠ none := by
  obtain ⟨k, hk, rfl⟩ := List.getElem_of_mem h
  obtain ⟨h1, h2, h3, vs, h4, _⟩ := R.at_ k cs[k] (rows[k]'(by omega)) (List.getElem?_eq_getElem hk) (List.getElem?_eq_getElem (by omega))
  exact ⟨h1, h2, h3, by rw [h4]; simp⟩
/-- a change of the heap and of what is shared that leaves the rows as they are -/
theorem Rws.move {B : Bs} {H S H' S' : Hp} {rows : List (List PyData)} {cs : List Addr} (R : Rws B H S rows cs) (hs : Same S S') (h : ∀ c ∈ cs, H' c = H c) (n : ∀ c ∈ cs, S' c = none) : Rws B H' S' rows cs :=
  ⟨R.nd, fun k c row e1 e2 => by
    obtain ⟨h1, h2, h3, vs, h4, h5⟩ := R.at_ k c row e1 e2
    have hc := List.mem_of_getElem? e1
    exact ⟨n c hc, h2, h3, vs, by rw [h c hc]; exact h4, h5.mono hs⟩⟩
section
variable {B : Bs} {σ : L2.St} {H S H' S' H1 S1 : Hp} {ρ : Nv} {g g' g1 : G}
theorem Good.rows (I : Good B σ H S ρ g) {i : Nat} {rows : List (List PyData)} (h : ρ[i]? = some (.ow (.mat rows))) : ∃ a cs, σ[i]? = some (some (.ref a)) ∧ H a = some (.lst (cs.map V.ref)) ∧ cs.length = rows.length ∧ S a = none ∧ (B.live = true → a ≠ B.A) ∧ B.H a = none ∧ Rws B H S rows cs := by
  obtain ⟨a, o, h1, h2, h3, h4, h5, h6⟩ := I.ow i _ h
  cases h6 with
  | @mat _ cs hl => exact ⟨a, cs, h1, h5, hl, h2, h3, h4, (I.mx i rows a cs h h1 h5).1⟩
theorem Good.rowsAt (I : Good B σ H S ρ g) {i : Nat} {rows : List (List PyData)} {a : Addr} {cs : List Addr} (h : ρ[i]? = some (.ow (.mat rows))) (h1 : σ[i]? = some (some (.ref a))) (h2 : H a = some (.lst (cs.map V.ref))) : cs.length = rows.length := by
  obtain ⟨a', cs', k1, k2, k3, _⟩ := I.rows h
  have e := addr_of h1 k1
  subst e
  rw [h2] at k2
  injection k2 with k2
  injection k2 with k2
  rw [refs_inj k2]; exact k3
/-- the third part, carried over to a heap and a sharing that leave all own lists of lists as they are -/
theorem Good.mxMove {σ' : L2.St} {ρ' : Nv} (I : Good B σ H S ρ g) (hs : Same S S') (hr : ∀ (i : Nat) (b : Ob), ρ'[i]? = some (.ow b) → (∃ b0, ρ[i]? = some (.ow b0)) ∧ σ'[i]? = σ[i]?) (hm : ∀ (i : Nat) (rows : List (List PyData)), ρ'[i]? = some (.ow (.mat rows)) → ρ[i]? = some (.ow (.mat rows)))
    (hh : ∀ (i : Nat) (rows : List (List PyData)) (a : Addr), ρ'[i]? = some (.ow (.mat rows)) → σ[i]? = some (some (.ref a)) → H' a = H a) (hc : ∀ (i : Nat) (rows : List (List PyData)) (a : Addr) (cs : List Addr), ρ'[i]? = some (.ow (.mat rows)) → ρ[i]? = some (.ow (.mat rows)) → σ[i]? = some (some (.ref a)) → H a = some (.lst (cs.map V.ref)) → ∀ c ∈ cs, H' c = H c ∧ S' c = none)
    (i : Nat) (rows : List (List PyData)) (a : Addr) (cs : List Addr) (e1 : ρ'[i]? = some (.ow (.mat rows))) (e2 : σ'[i]? = some (some (.ref a))) (e3 : H' a = some (.lst (cs.map V.ref))) : Rws B H' S' rows cs ∧
    (∀ (j : Nat) (b : Ob) (a' : Addr), ρ'[j]? = some (.ow b) → σ'[j]? = some (some (.ref a')) → a' ∉ cs) ∧
    (∀ (j : Nat) (rows' : List (List PyData)) (a' : Addr) (cs' : List Addr), j ≠ i → ρ'[j]? = some (.ow (.mat rows')) → σ'[j]? = some (some (.ref a')) → H' a' = some (.lst (cs'.map V.ref)) → ∀ c ∈ cs, c ∉ cs') := by
  have f2 := (hr i _ e1).2
  have f1 := hm i _ e1
  rw [f2] at e2
  rw [hh i _ a e1 e2] at e3
  obtain ⟨R, A1, A2⟩ := I.mx i rows a cs f1 e2 e3
  refine ⟨R.move hs (fun c h => (hc i rows a cs e1 f1 e2 e3 c h).1) fun c h => (hc i rows a cs e1 f1 e2 e3 c h).2, fun j b a' k1 k2 => ?_, fun j rows' a' cs' hj k1 k2 k3 => ?_⟩
  · obtain ⟨⟨b0, l1⟩, l2⟩ := hr j b k1
    rw [l2] at k2
    exact A1 j b0 a' l1 k2
  · have l2 := (hr j _ k1).2
    rw [l2] at k2
    rw [hh j _ a' k1 k2] at k3
    exact A2 j rows' a' cs' hj (hm j _ k1) k2 k3
/-- where heap and sharing stay -/
theorem Good.mxSame {σ' : L2.St} {ρ' : Nv} (I : Good B σ H S ρ g) (hr : ∀ (i : Nat) (b : Ob), ρ'[i]? = some (.ow b) → ρ[i]? = some (.ow b) ∧ σ'[i]? = σ[i]?)
    (i : Nat) (rows : List (List PyData)) (a : Addr) (cs : List Addr) (e1 : ρ'[i]? = some (.ow (.mat rows))) (e2 : σ'[i]? = some (some (.ref a))) (e3 : H a = some (.lst (cs.map V.ref))) : Rws B H S rows cs ∧
    (∀ (j : Nat) (b : Ob) (a' : Addr), ρ'[j]? = some (.ow b) → σ'[j]? = some (some (.ref a')) → a' ∉ cs) ∧
    (∀ (j : Nat) (rows' : List (List PyData)) (a' : Addr) (cs' : List Addr), j ≠ i → ρ'[j]? = some (.ow (.mat rows')) → σ'[j]? = some (some (.ref a')) → H a' = some (.lst (cs'.map V.ref)) → ∀ c ∈ cs, c ∉ cs') :=
  I.mxMove (Same.refl _) (fun i b h => ⟨⟨b, (hr i b h).1⟩, (hr i b h).2⟩) (fun i rows h => (hr i _ h).1) (fun _ _ _ _ _ => rfl) (fun i rows a cs _ h1 h2 h3 c hc => ⟨rfl, ((I.mx i rows a cs h1 h2 h3).1.row (I.rowsAt h1 h2 h3) hc).1⟩) i rows a cs e1 e2 e3
/-- behind growth -/
theorem Good.grow (I : Good B σ H S ρ g) (e : Gr B H S H' S') (sub : Same S' H') (dr : DrAt B H' S' g') : Good B σ H' S' ρ g' := by
  refine ⟨⟨sub, fun a o h n => e.keep a o (I.keep a o h n) n, I.base.trans e.base, fun a h => ?_, fun a h => e.there a (I.there a h), fun hl => none_of e (I.dr.live hl) (I.no hl), dr⟩, I.len, fun i d h => ?_, I.dw, I.sw, fun i b h => ?_, I.ap, ?_⟩
  · rcases e.new a h with z | z
    · exact I.new a z
    · refine .inr ?_
      cases q : B.H a with
      | none => rfl
      | some o => exact absurd z (I.there a (by rw [q]; simp))
  · obtain ⟨v, h1, h2⟩ := I.sh i d h
    exact ⟨v, h1, h2.mono e.base⟩
  · obtain ⟨a, o, h1, h2, h3, h4, h5, h6⟩ := I.ow i b h
    exact ⟨a, o, h1, none_of e (by rw [h5]; simp) h2, h3, h4, e.keep a o h5 h3, h6.mono e.base⟩
  · refine I.mxMove e.base (fun i b h => ⟨⟨b, h⟩, rfl⟩) (fun i rows h => h) (fun i rows a h1 h2 => ?_) fun i rows a cs _ h1 h2 h3 c hc => ?_
    · obtain ⟨a', o, k1, k2, k3, k4, k5, _⟩ := I.ow i _ h1
      have q := addr_of h2 k1
      subst q
      rw [k5]; exact e.keep a o k5 k3
    · obtain ⟨R, _⟩ := I.mx i rows a cs h1 h2 h3
      obtain ⟨k1, k2, k3, k4⟩ := R.row (I.rowsAt h1 h2 h3) hc
      refine ⟨?_, none_of e k4 k1⟩
      cases q : H c with
      | none => exact absurd q k4
      | some o => exact e.keep c o q k2
theorem Good.stay (I : Good B σ H S ρ g) {p : Addr} (hp : H p = none) : S p = none := by
  cases q : S p with
  | none => rfl
  | some u => rw [I.sub _ _ q] at hp; cases hp
theorem Good.neA (I : Good B σ H S ρ g) {p : Addr} (hp : H p = none) : B.live = true → B.A ≠ p := fun hl z => I.dr.live hl (by rw [z]; exact hp)
/-- a new shared object -/
theorem Good.alloc (I : Good B σ H S ρ g) {p : Addr} {o : HO} (hp : H p = none) : Good B σ (upd H p o) (upd S p o) ρ g ∧ Gr B H S (upd H p o) (upd S p o) := by
  have hs : S p = none := I.stay hp
  have e : Gr B H S (upd H p o) (upd S p o) := by
    refine ⟨fun a u h _ => by rw [upd_ne (ne_of_none h hp)]; exact h, fun a u h => by rw [upd_ne (ne_of_none h hs)]; exact h, fun a h => ?_, fun a h => ?_⟩
    · by_cases ha : a = p
      · subst ha; exact .inr hp
      · rw [upd_ne ha] at h; exact .inl h
    · by_cases ha : a = p
      · subst ha; rw [upd_same]; simp
      · rw [upd_ne ha]; exact h
  refine ⟨I.grow e (fun a u h => ?_) (I.dr.mono e.base fun hl => upd_ne (I.neA hp hl)), e⟩
  by_cases ha : a = p
  · subst ha; rw [upd_same] at h ⊢; exact h
  · rw [upd_ne ha] at h ⊢; exact I.sub _ _ h
/-- a new object that is not shared -/
theorem Good.allocO (I : Good B σ H S ρ g) {p : Addr} {o : HO} (hp : H p = none) : Good B σ (upd H p o) S ρ g ∧ Gr B H S (upd H p o) S := by
  have e : Gr B H S (upd H p o) S := by
    refine ⟨fun a u h _ => by rw [upd_ne (ne_of_none h hp)]; exact h, fun a u h => h, fun a h => .inl h, fun a h => ?_⟩
    by_cases ha : a = p
    · subst ha; rw [upd_same]; simp
    · rw [upd_ne ha]; exact h
  exact ⟨I.grow e (fun a u h => by rw [upd_ne (ne_of_none (I.sub _ _ h) hp)]; exact I.sub _ _ h) (I.dr.mono e.base fun hl => upd_ne (I.neA hp hl)), e⟩
/-- a thing that nobody else holds becomes shared -/
theorem Good.share (I : Good B σ H S ρ g) (I1 : Good B σ H1 S1 ρ g1) (e : Gr B H S H1 S1) {a : Addr} {o : HO} (n1 : S1 a = none) (n2 : H a = none) (ho : H1 a = some o) : Good B σ H1 (upd S1 a o) ρ g1 ∧ Gr B H S H1 (upd S1 a o) := by
  have sm : Same S1 (upd S1 a o) := fun c u q => by rw [upd_ne (ne_of_none q n1)]; exact q
  have na : B.live = true → B.A ≠ a := I.neA n2
  refine ⟨⟨⟨fun c u q => ?_, I1.keep, I1.base.trans sm, fun c hc => ?_, I1.there, fun hl => by rw [upd_ne (na hl)]; exact I1.no hl, I1.dr.mono sm fun _ => rfl⟩, I1.len, fun i d h => ?_, I1.dw, I1.sw, fun i b h => ?_, I1.ap, ?_⟩, ⟨e.keep, e.base.trans sm, fun c hc => ?_, e.there⟩⟩
  · by_cases hca : c = a
    · subst hca; rw [upd_same] at q; rw [← q]; exact ho
    · rw [upd_ne hca] at q; exact I1.sub _ _ q
  · by_cases hca : c = a
    · subst hca
      refine .inr ?_
      cases q : B.H c with
      | none => rfl
      | some u => exact absurd n2 (I.there c (by rw [q]; simp))
    · rw [upd_ne hca] at hc; exact I1.new c hc
  · obtain ⟨v, h1, h2⟩ := I1.sh i d h
    exact ⟨v, h1, h2.mono sm⟩
  · obtain ⟨c, u, h1, h2, h3, h4, h5, h6⟩ := I1.ow i b h
    obtain ⟨c', u', k1, _, _, _, k5, _⟩ := I.ow i b h
    have ec : c' = c := by
      rw [h1] at k1
      injection k1 with k1
      injection k1 with k1
      injection k1 with k1
      exact k1.symm
    subst ec
    have hca : c' ≠ a := fun z => by rw [z, n2] at k5; cases k5
    exact ⟨c', u, h1, by rw [upd_ne hca]; exact h2, h3, h4, h5, h6.mono sm⟩
  · refine I1.mxMove sm (fun i b h => ⟨⟨b, h⟩, rfl⟩) (fun i rows h => h) (fun i b c h1 h2 => rfl) fun i rows c cs _ h1 h2 h3 x hx => ⟨rfl, ?_⟩
    obtain ⟨R, _⟩ := I1.mx i rows c cs h1 h2 h3
    obtain ⟨k1, _⟩ := R.row (I1.rowsAt h1 h2 h3) hx
    have hxa : x ≠ a := fun z => by
      subst z
      obtain ⟨a0, o0, l1, _, l3, _, l5, _⟩ := I.ow i _ h1
      have q := addr_of h2 l1
      subst q
      have l6 := e.keep c o0 l5 l3
      rw [h3] at l6
      rw [← l6] at l5
      obtain ⟨R0, _⟩ := I.mx i rows c cs h1 h2 l5
      exact (R0.row (I.rowsAt h1 h2 l5) hx).2.2.2 n2
    rw [upd_ne hxa]; exact k1
  · by_cases hca : c = a
    · subst hca; exact .inr n2
    · rw [upd_ne hca] at hc; exact e.new c hc
end

/-! ### the readings by data -/
abbrev Ex := Nv → G → R PyData
abbrev Te := Nv → G → R Bool
abbrev Ar := Nv → G → R (List PyData)
abbrev Ow := Nv → G → R Ob
section
variable (cls : Nat → Value) (W : WX)
def EO (B : Bs) (σ : L2.St) (H S : Hp) (ρ : Nv) (Q : VK) : R PyData → Prop
  | .ok d g' => ∀ v H' S', Good B σ H' S' ρ g' → Gr B H S H' S' → Rp S' v d → Q v H'
  | .ex n g' => ∀ H' S', Good B σ H' S' ρ g' → Gr B H S H' S' → W (cls n) none σ H'
  | .bad => False
def TO (B : Bs) (σ : L2.St) (H S : Hp) (ρ : Nv) (Q : Bool → Hp → Prop) : R Bool → Prop
  | .ok b g' => ∀ H' S', Good B σ H' S' ρ g' → Gr B H S H' S' → Q b H'
  | .ex n g' => ∀ H' S', Good B σ H' S' ρ g' → Gr B H S H' S' → W (cls n) none σ H'
  | .bad => False
def AO (B : Bs) (σ : L2.St) (H S : Hp) (ρ : Nv) (Q : List V → Hp → Prop) : R (List PyData) → Prop
  | .ok ds g' => ∀ vs H' S', Good B σ H' S' ρ g' → Gr B H S H' S' → Rps S' vs ds → Q vs H'
  | .ex n g' => ∀ H' S', Good B σ H' S' ρ g' → Gr B H S H' S' → W (cls n) none σ H'
  | .bad => False
/-- a new thing that nobody else holds -/
def OO (B : Bs) (σ : L2.St) (H S : Hp) (ρ : Nv) (Q : VK) : R Ob → Prop
  | .ok b g' => ∀ a o H' S', Good B σ H' S' ρ g' → Gr B H S H' S' → S' a = none → H a = none → H' a = some o → ObAt S' b o → Q (.ref a) H'
  | .ex n g' => ∀ H' S', Good B σ H' S' ρ g' → Gr B H S H' S' → W (cls n) none σ H'
  | .bad => False
def tE (f : Ex) : TE := fun σ H Q => ∃ B S ρ g, Good B σ H S ρ g ∧ EO cls W B σ H S ρ Q (f ρ g)
def tT (f : Te) : TT := fun σ H Q => ∃ B S ρ g, Good B σ H S ρ g ∧ TO cls W B σ H S ρ Q (f ρ g)
def tA (f : Ar) : TA := fun σ H Q => ∃ B S ρ g, Good B σ H S ρ g ∧ AO cls W B σ H S ρ Q (f ρ g)
/-- the first argument is the draws, in slot i -/
def tAG (i : Nat) (f : Ar) : TA := fun σ H Q => ∃ B S ρ g, Good B σ H S ρ g ∧ ρ[i]? = some .dr ∧ AO cls W B σ H S ρ (fun vs H' => Q (.ref B.A :: vs) H') (f ρ g)
def tO (f : Ow) : TE := fun σ H Q => ∃ B S ρ g, Good B σ H S ρ g ∧ OO cls W B σ H S ρ Q (f ρ g)
end

section
variable {X : Cx}
theorem PE_imp {e : Expr} {t t' : TE} (h : PE X e t) (hi : ∀ σ H Q, t' σ H Q → t σ H Q) : PE X e t' := ⟨fun pins s σ H Q I q => h.run pins s σ H Q I (hi _ _ _ q)⟩
theorem PT_imp {e : Expr} {t t' : TT} (h : PT X e t) (hi : ∀ σ H Q, t' σ H Q → t σ H Q) : PT X e t' := ⟨fun pins s σ H Q I q => h.run pins s σ H Q I (hi _ _ _ q)⟩
theorem PW_imp {e : Expr} {t t' : TT} (h : PW X e t) (hi : ∀ σ H Q, t' σ H Q → t σ H Q) : PW X e t' := ⟨fun wh pins s σ H Q I q => h.run wh pins s σ H Q I (hi _ _ _ q)⟩
theorem PA_imp {es : List Expr} {t t' : TA} (h : PA X es t) (hi : ∀ σ H Q, t' σ H Q → t σ H Q) : PA X es t' := ⟨fun pos pins s σ H Q I q => h.run pos pins s σ H Q I (hi _ _ _ q)⟩
theorem PS_imp {e : Stmt} {t t' : TS} (h : PS X e t) (hi : ∀ D σ H, t' D σ H → t D σ H) : PS X e t' := ⟨fun pins s σ H D I q => h.run pins s σ H D I (hi _ _ _ q)⟩
theorem PSs_imp {e : List Stmt} {t t' : TS} (h : PSs X e t) (hi : ∀ D σ H, t' D σ H → t D σ H) : PSs X e t' := ⟨fun pins s σ H D I q => h.run pins s σ H D I (hi _ _ _ q)⟩
end

/-! ### the mirrors of expressions -/
@[simp] def constD (d : PyData) : Ex := fun _ g => .ok d g
@[simp] def varD (i : Nat) : Ex := fun ρ g => match ρ[i]? with
  | some (.sh d) => .ok d g
  | _ => .bad
@[simp] def opD (op : PyData → PyData → Option PyData) (a b : Ex) : Ex := fun ρ g => (a ρ g).bind fun x g1 => (b ρ g1).bind fun y g2 => ofO (op x y) g2
@[simp] def unD (op : PyData → Option PyData) (a : Ex) : Ex := fun ρ g => (a ρ g).bind fun x g1 => ofO (op x) g1
@[simp] def nilD : Ar := fun _ g => .ok [] g
@[simp] def consD (a : Ex) (r : Ar) : Ar := fun ρ g => (a ρ g).bind fun x g1 => (r ρ g1).bind fun xs g2 => .ok (x :: xs) g2

section
variable {X : Cx} {cls : Nat → Value} {W : WX} {pos : Pos}

/-- one part behind another -/
theorem EO_bind {B : Bs} {σ : L2.St} {H S : Hp} {ρ : Nv} {Q : VK} {α : Type} {r : R α} {f : α → G → R PyData} (P : α → Hp → Hp → G → Prop)
    (h : EO cls W B σ H S ρ Q (r.bind f)) : match r with
    | .ok a g => EO cls W B σ H S ρ Q (f a g)
    | .ex n g => ∀ H' S', Good B σ H' S' ρ g → Gr B H S H' S' → W (cls n) none σ H'
    | .bad => False := by
  cases r with
  | ok a g => exact h
  | ex n g => exact h
  | bad => exact h

theorem EO_gr {B : Bs} {σ : L2.St} {H S H1 S1 : Hp} {ρ : Nv} {Q : VK} {r : R PyData} (e : Gr B H S H1 S1) (h : EO cls W B σ H S ρ Q r) : EO cls W B σ H1 S1 ρ Q r := by
  cases r with
  | ok a g => exact fun v H' S' I u d => h v H' S' I (e.trans u) d
  | ex n g => exact fun H' S' I u => h H' S' I (e.trans u)
  | bad => exact h
theorem TO_gr {B : Bs} {σ : L2.St} {H S H1 S1 : Hp} {ρ : Nv} {Q : Bool → Hp → Prop} {r : R Bool} (e : Gr B H S H1 S1) (h : TO cls W B σ H S ρ Q r) : TO cls W B σ H1 S1 ρ Q r := by
  cases r with
  | ok a g => exact fun H' S' I u => h H' S' I (e.trans u)
  | ex n g => exact fun H' S' I u => h H' S' I (e.trans u)
  | bad => exact h
theorem AO_gr {B : Bs} {σ : L2.St} {H S H1 S1 : Hp} {ρ : Nv} {Q : List V → Hp → Prop} {r : R (List PyData)} (e : Gr B H S H1 S1) (h : AO cls W B σ H S ρ Q r) : AO cls W B σ H1 S1 ρ Q r := by
  cases r with
  | ok a g => exact fun v H' S' I u d => h v H' S' I (e.trans u) d
  | ex n g => exact fun H' S' I u => h H' S' I (e.trans u)
  | bad => exact h
theorem OO_gr {B : Bs} {σ : L2.St} {H S H1 S1 : Hp} {ρ : Nv} {Q : VK} {r : R Ob} (e : Gr B H S H1 S1) (h : OO cls W B σ H S ρ Q r) : OO cls W B σ H1 S1 ρ Q r := by
  cases r with
  | ok a g => exact fun v o H' S' I u n1 n2 d f => h v o H' S' I (e.trans u) n1 (none_back e n2) d f
  | ex n g => exact fun H' S' I u => h H' S' I (e.trans u)
  | bad => exact h

theorem pd_const {e : Expr} {v : V} {d : PyData} (he : PE X e (tC v)) (r : ∀ S, Rp S v d) : PE X e (tE cls W (constD d)) :=
  PE_imp he fun σ H Q ⟨B, S, ρ, g, I, h⟩ => h v H S I .refl (r S)
theorem pd_int {i j pos} : PE X (.Constant (.int i) j pos) (tE cls W (constD (.int i))) := pd_const pe_int fun _ => .int i
theorem pd_bl {i j pos} : PE X (.Constant (.bool i) j pos) (tE cls W (constD (.bool i))) := pd_const pe_bl fun _ => .bl i
theorem pd_non {j pos} : PE X (.Constant .none j pos) (tE cls W (constD .none)) := pd_const pe_non fun _ => .non
theorem pd_str {x j pos} : PE X (.Constant (.str x) j pos) (tE cls W (constD (.str x))) := pd_const pe_str fun _ => .str x
theorem pd_globI {x : Str} {i : Int} (hm : ∃ t, X.mg x = some (.int i t)) (hg : Gl X x := by rfl) (hd : (x == ("__debug__" : Str)) = false := by decide) : PE X (.Name x pos) (tE cls W (constD (.int i))) := by
  obtain ⟨t, hm⟩ := hm
  exact pd_const (v := .int i) (pe_glob hg hm ⟨t, rfl⟩ hd) fun _ => .int i
theorem pd_var (i : Nat) {x : Str} (hN : X.N[i]? = some x := by rfl) (hv : Vis X.env.scope x := by first | exact Or.inl rfl | exact Or.inr (Or.inl rfl) | exact Or.inr (Or.inr rfl)) (hd : (x == ("__debug__" : Str)) = false := by decide)
    (hcd : (x == ("__classdict__" : Str)) = false := by decide) : PE X (.Name x pos) (tE cls W (varD i)) :=
  PE_imp (pe_var hN hv hd hcd) fun σ H Q ⟨B, S, ρ, g, I, h⟩ => by
    unfold varD at h
    cases e : ρ[i]? with
    | none => rw [e] at h; exact False.elim h
    | some z =>
      rw [e] at h
      cases z with
      | sh d =>
        obtain ⟨v, h1, h2⟩ := I.sh i d e
        exact ⟨v, h1, h v H S I .refl h2⟩
      | no => exact False.elim h
      | ow _ => exact False.elim h
      | dr => exact False.elim h
      | sc => exact False.elim h

/-- what an operator's rule must say of data -/
def Spec2 (r : R2) (op : PyData → PyData → Option PyData) : Prop := ∀ (B : Bs) (σ : L2.St) (H S : Hp) (ρ : Nv) (g : G) (x y d : PyData) (v u : V) (Q : VK), op x y = some d → Good B σ H S ρ g → Rp S v x → Rp S u y →
  (∀ w H' S', Good B σ H' S' ρ g → Gr B H S H' S' → Rp S' w d → Q w H') → r v u H Q
theorem op_of {r : R2} {op : PyData → PyData → Option PyData} {fa fb : Ex} (sp : Spec2 r op) (σ : L2.St) (H : Hp) (Q : VK) (h : tE cls W (opD op fa fb) σ H Q) : tOp r (tE cls W fa) (tE cls W fb) σ H Q := by
  obtain ⟨B, S, ρ, g, I, h⟩ := h
  unfold opD at h
  refine ⟨B, S, ρ, g, I, ?_⟩
  cases ea : fa ρ g with
  | bad => rw [ea] at h; exact h
  | ex n g1 => rw [ea] at h; exact h
  | ok x g1 =>
    rw [ea] at h
    intro v H1 S1 I1 e1 r1
    refine ⟨B, S1, ρ, g1, I1, ?_⟩
    have h' := EO_gr e1 h
    simp only [R.bind_ok] at h'
    cases eb : fb ρ g1 with
    | bad => rw [eb] at h'; exact h'
    | ex n g2 => rw [eb] at h'; exact h'
    | ok y g2 =>
      rw [eb] at h'
      simp only [R.bind_ok] at h'
      intro u H2 S2 I2 e2 r2
      have h2 := EO_gr e2 h'
      cases eo : op x y with
      | none => rw [eo] at h2; exact False.elim h2
      | some d =>
        rw [eo] at h2
        exact sp B σ H2 S2 ρ g2 x y d v u Q eo I2 (r1.mono e2.base) r2 h2
theorem pd_bin {a b : Expr} {op : Operator} {r : R2} {o : PyData → PyData → Option PyData} {fa fb : Ex} (ho : OpR X (binaryOp op) r) (sp : Spec2 r o) (ha : PE X a (tE cls W fa)) (hb : PE X b (tE cls W fb)) :
    PE X (.BinOp a op b pos) (tE cls W (opD o fa fb)) := PE_imp (pe_op ho ha hb) (op_of sp)
theorem pd_cmpO {a b : Expr} {op : CmpOp} {r : R2} {o : PyData → PyData → Option PyData} {fa fb : Ex} (ho : OpR X (compareOp op) r) (sp : Spec2 r o) (ha : PE X a (tE cls W fa)) (hb : PE X b (tE cls W fb)) (hm : behindInMarks op b = false) :
    PE X (.Compare a [op] [b] pos) (tE cls W (opD o fa fb)) := PE_imp (pe_cmpR ho ha hb hm) (op_of sp)
/-- a value's truth -/
@[simp] def truD : PyData → Option Bool
  | .none => some false
  | .bool b => some b
  | .int i => some (i != 0)
  | .list ds => some (!ds.isEmpty)
  | .tuple ds => some (!ds.isEmpty)
  | _ => none
@[simp] def boolD (f : Ex) : Te := fun ρ g => (f ρ g).bind fun d g1 => match d with
  | .bool b => .ok b g1
  | _ => .bad
@[simp] def truthD (f : Ex) : Te := fun ρ g => (f ρ g).bind fun d g1 => ofO (truD d) g1
theorem boolD_of {f : Ex} (σ : L2.St) (H : Hp) (Q : Bool → Hp → Prop) (h : tT cls W (boolD f) σ H Q) : tE cls W f σ H (fun x H' => ∃ k, x = .bl k ∧ Q k H') := by
  obtain ⟨B, S, ρ, g, I, h⟩ := h
  unfold boolD at h
  refine ⟨B, S, ρ, g, I, ?_⟩
  cases ea : f ρ g with
  | bad => rw [ea] at h; exact h
  | ex n g1 => rw [ea] at h; exact h
  | ok x g1 =>
    rw [ea] at h
    intro v H1 S1 I1 e1 r1
    cases r1 with
    | bl b => exact ⟨b, rfl, h H1 S1 I1 e1⟩
    | non => exact False.elim h
    | int i => exact False.elim h
    | str i => exact False.elim h
    | lst _ _ => exact False.elim h
    | tup _ _ => exact False.elim h
theorem ptd_cmpO {a b : Expr} {op : CmpOp} {r : R2} {o : PyData → PyData → Option PyData} {fa fb : Ex} (ho : OpR X (compareOp op) r) (sp : Spec2 r o) (ha : PE X a (tE cls W fa)) (hb : PE X b (tE cls W fb)) (hm : behindInMarks op b = false) :
    PT X (.Compare a [op] [b] pos) (tT cls W (boolD (opD o fa fb))) := PT_imp (pt_cmpR ho ha hb hm) fun σ H Q h => op_of sp σ H _ (boolD_of σ H Q h)
theorem Rps.isEmpty {S : Hp} {vs : List V} {ds : List PyData} (r : Rps S vs ds) : vs.isEmpty = ds.isEmpty := by
  cases r <;> rfl
theorem truV_of {K : PySem.W.Frag} {S H : Hp} {v : V} {d : PyData} {k : Bool} (r : Rp S v d) (s : Same S H) (e : truD d = some k) : TruV K v H k := by
  cases r with
  | non => exact (Option.some.inj e).symm
  | bl b => exact (Option.some.inj e).symm
  | int i => exact (Option.some.inj e).symm
  | str x => cases e
  | lst h q => exact .inl ⟨_, .of (s _ _ h), by rw [q.isEmpty]; exact (Option.some.inj e).symm⟩
  | tup h q => exact .inr (.inl ⟨_, .of (s _ _ h), by rw [q.isEmpty]; exact (Option.some.inj e).symm⟩)
theorem truthD_of {K : PySem.W.Frag} {f : Ex} (σ : L2.St) (H : Hp) (Q : Bool → Hp → Prop) (h : tT cls W (truthD f) σ H Q) : tE cls W f σ H (fun x H' => ∃ k, TruV K x H' k ∧ Q k H') := by
  obtain ⟨B, S, ρ, g, I, h⟩ := h
  unfold truthD at h
  refine ⟨B, S, ρ, g, I, ?_⟩
  cases ea : f ρ g with
  | bad => rw [ea] at h; exact h
  | ex n g1 => rw [ea] at h; exact h
  | ok x g1 =>
    rw [ea] at h
    intro v H1 S1 I1 e1 r1
    simp only [R.bind_ok] at h
    cases et : truD x with
    | none => rw [et] at h; exact False.elim h
    | some b =>
      rw [et] at h
      exact ⟨b, truV_of r1 I1.sub et, h H1 S1 I1 e1⟩
theorem ptd_val {a : Expr} {f : Ex} (ha : PE X a (tE cls W f)) (he : ∀ whole, isTrue a X.env whole = (do let v ← whole; standAt a.pos; holding [v] (truthy v)) := by intro _; rfl) : PT X a (tT cls W (truthD f)) :=
  PT_imp (pt_truth ha he) fun σ H Q h => truthD_of σ H Q h

/-! ### and, or, not -/
@[simp] def andT (a b : Te) : Te := fun ρ g => (a ρ g).bind fun x g1 => if x = true then b ρ g1 else .ok false g1
@[simp] def orT (a b : Te) : Te := fun ρ g => (a ρ g).bind fun x g1 => if x = true then .ok true g1 else b ρ g1
@[simp] def notT (a : Te) : Te := fun ρ g => (a ρ g).bind fun x g1 => .ok (!x) g1
variable {a b : Expr} {rest : List Expr} {fa fb : Te}
theorem pwd_and1 (ha : PT X a (tT cls W fa)) : PW X (.BoolOp .And [a] pos) (tT cls W fa) := pw_and1 ha
theorem pwd_or1 (ha : PT X a (tT cls W fa)) : PW X (.BoolOp .Or [a] pos) (tT cls W fa) := pw_or1 ha
theorem pwd_and (ha : PT X a (tT cls W fa)) (hb : PW X (.BoolOp .And (b :: rest) pos) (tT cls W fb)) : PW X (.BoolOp .And (a :: b :: rest) pos) (tT cls W (andT fa fb)) :=
  PW_imp (pw_and ha hb) fun σ H Q ⟨B, S, ρ, g, I, h⟩ => by
    unfold andT at h
    refine ⟨B, S, ρ, g, I, ?_⟩
    cases ea : fa ρ g with
    | bad => rw [ea] at h; exact h
    | ex n g1 => rw [ea] at h; exact h
    | ok x g1 =>
      rw [ea] at h
      intro H1 S1 I1 e1
      cases x with
      | true => exact ⟨B, S1, ρ, g1, I1, TO_gr e1 h⟩
      | false => exact h H1 S1 I1 e1
theorem pwd_or (ha : PT X a (tT cls W fa)) (hb : PW X (.BoolOp .Or (b :: rest) pos) (tT cls W fb)) : PW X (.BoolOp .Or (a :: b :: rest) pos) (tT cls W (orT fa fb)) :=
  PW_imp (pw_or ha hb) fun σ H Q ⟨B, S, ρ, g, I, h⟩ => by
    unfold orT at h
    refine ⟨B, S, ρ, g, I, ?_⟩
    cases ea : fa ρ g with
    | bad => rw [ea] at h; exact h
    | ex n g1 => rw [ea] at h; exact h
    | ok x g1 =>
      rw [ea] at h
      intro H1 S1 I1 e1
      cases x with
      | false => exact ⟨B, S1, ρ, g1, I1, TO_gr e1 h⟩
      | true => exact h H1 S1 I1 e1
theorem ptd_not (ha : PT X a (tT cls W fa)) : PT X (.UnaryOp .Not a pos) (tT cls W (notT fa)) :=
  PT_imp (pt_not ha) fun σ H Q ⟨B, S, ρ, g, I, h⟩ => by
    unfold notT at h
    refine ⟨B, S, ρ, g, I, ?_⟩
    cases ea : fa ρ g with
    | bad => rw [ea] at h; exact h
    | ex n g1 => rw [ea] at h; exact h
    | ok x g1 => rw [ea] at h; exact h
/-- as values -/
@[simp] def andV (a b : Ex) : Ex := fun ρ g => (a ρ g).bind fun x g1 => (ofO (truD x) g1).bind fun k g2 => if k = true then b ρ g2 else .ok x g2
@[simp] def orV (a b : Ex) : Ex := fun ρ g => (a ρ g).bind fun x g1 => (ofO (truD x) g1).bind fun k g2 => if k = true then .ok x g2 else b ρ g2
@[simp] def notV (a : Ex) : Ex := fun ρ g => (a ρ g).bind fun x g1 => (ofO (truD x) g1).bind fun k g2 => .ok (.bool (!k)) g2
variable {va vb : Ex}
theorem pd_one {op} (h : PE X a (tE cls W va)) : PE X (.BoolOp op [a] pos) (tE cls W va) := pe_one h
theorem pd_and (ha : PE X a (tE cls W va)) (hb : PE X (.BoolOp .And (b :: rest) pos) (tE cls W vb)) : PE X (.BoolOp .And (a :: b :: rest) pos) (tE cls W (andV va vb)) :=
  PE_imp (pe_andT ha hb) fun σ H Q ⟨B, S, ρ, g, I, h⟩ => by
    unfold andV at h
    refine ⟨B, S, ρ, g, I, ?_⟩
    cases ea : va ρ g with
    | bad => rw [ea] at h; exact h
    | ex n g1 => rw [ea] at h; exact h
    | ok x g1 =>
      rw [ea] at h
      intro v H1 S1 I1 e1 r1
      simp only [R.bind_ok] at h
      cases et : truD x with
      | none => rw [et] at h; exact False.elim h
      | some k =>
        rw [et] at h
        refine ⟨k, truV_of r1 I1.sub et, ?_⟩
        cases k with
        | true => exact ⟨B, S1, ρ, g1, I1, EO_gr e1 h⟩
        | false => exact h v H1 S1 I1 e1 r1
theorem pd_or (ha : PE X a (tE cls W va)) (hb : PE X (.BoolOp .Or (b :: rest) pos) (tE cls W vb)) : PE X (.BoolOp .Or (a :: b :: rest) pos) (tE cls W (orV va vb)) :=
  PE_imp (pe_orT ha hb) fun σ H Q ⟨B, S, ρ, g, I, h⟩ => by
    unfold orV at h
    refine ⟨B, S, ρ, g, I, ?_⟩
    cases ea : va ρ g with
    | bad => rw [ea] at h; exact h
    | ex n g1 => rw [ea] at h; exact h
    | ok x g1 =>
      rw [ea] at h
      intro v H1 S1 I1 e1 r1
      simp only [R.bind_ok] at h
      cases et : truD x with
      | none => rw [et] at h; exact False.elim h
      | some k =>
        rw [et] at h
        refine ⟨k, truV_of r1 I1.sub et, ?_⟩
        cases k with
        | false => exact ⟨B, S1, ρ, g1, I1, EO_gr e1 h⟩
        | true => exact h v H1 S1 I1 e1 r1
theorem pd_not (ha : PE X a (tE cls W va)) : PE X (.UnaryOp .Not a pos) (tE cls W (notV va)) :=
  PE_imp (pe_notT ha) fun σ H Q ⟨B, S, ρ, g, I, h⟩ => by
    unfold notV at h
    refine ⟨B, S, ρ, g, I, ?_⟩
    cases ea : va ρ g with
    | bad => rw [ea] at h; exact h
    | ex n g1 => rw [ea] at h; exact h
    | ok x g1 =>
      rw [ea] at h
      intro v H1 S1 I1 e1 r1
      simp only [R.bind_ok] at h
      cases et : truD x with
      | none => rw [et] at h; exact False.elim h
      | some k =>
        rw [et] at h
        exact ⟨k, truV_of r1 I1.sub et, h _ H1 S1 I1 e1 (.bl _)⟩
@[simp] def ifD (t : Te) (a b : Ex) : Ex := fun ρ g => (t ρ g).bind fun k g1 => if k = true then a ρ g1 else b ρ g1
theorem pd_if {c : Expr} (hc : PT X c (tT cls W fa)) (ha : PE X a (tE cls W va)) (hb : PE X b (tE cls W vb)) : PE X (.IfExp c a b pos) (tE cls W (ifD fa va vb)) :=
  PE_imp (pe_ifExp hc ha hb) fun σ H Q ⟨B, S, ρ, g, I, h⟩ => by
    unfold ifD at h
    refine ⟨B, S, ρ, g, I, ?_⟩
    cases ea : fa ρ g with
    | bad => rw [ea] at h; exact h
    | ex n g1 => rw [ea] at h; exact h
    | ok k g1 =>
      rw [ea] at h
      intro H1 S1 I1 e1
      cases k with
      | true => exact ⟨B, S1, ρ, g1, I1, EO_gr e1 h⟩
      | false => exact ⟨B, S1, ρ, g1, I1, EO_gr e1 h⟩

/-! ### argument lists, displays -/
variable {es : List Expr} {e : Expr} {ra : Ar}
theorem pad_nil : PA X [] (tA cls W nilD) := PA_imp pa_nil fun σ H Q ⟨B, S, ρ, g, I, h⟩ => h [] H S I .refl .nil
theorem consD_of (σ : L2.St) (H : Hp) (Q : List V → Hp → Prop) (h : tA cls W (consD va ra) σ H Q) : tCons (tE cls W va) (tA cls W ra) σ H Q := by
  obtain ⟨B, S, ρ, g, I, h⟩ := h
  unfold consD at h
  refine ⟨B, S, ρ, g, I, ?_⟩
  cases ea : va ρ g with
  | bad => rw [ea] at h; exact h
  | ex n g1 => rw [ea] at h; exact h
  | ok x g1 =>
    rw [ea] at h
    intro v H1 S1 I1 e1 r1
    refine ⟨B, S1, ρ, g1, I1, ?_⟩
    have h' := AO_gr e1 h
    simp only [R.bind_ok] at h'
    cases eb : ra ρ g1 with
    | bad => rw [eb] at h'; exact h'
    | ex n g2 => rw [eb] at h'; exact h'
    | ok y g2 =>
      rw [eb] at h'
      intro u H2 S2 I2 e2 r2
      exact h' (v :: u) H2 S2 I2 e2 (.cons (r1.mono e2.base) r2)
theorem pad_cons (ha : PE X e (tE cls W va)) (hr : PA X es (tA cls W ra)) (hs : starEach (e :: es) X.env = (false, eval e X.env) :: starEach es X.env := by rfl) : PA X (e :: es) (tA cls W (consD va ra)) :=
  PA_imp (pa_cons ha hr hs) consD_of
@[simp] def tupD (r : Ar) : Ex := fun ρ g => (r ρ g).bind fun ds g1 => if ds.length ≤ 1000 then .ok (.tuple ds) g1 else .bad
theorem line1000 {n : Nat} (h : n ≤ 1000) : n ≤ sizeLine := Nat.le_of_lt (small1000 h)
theorem pd_tup {x1} (h : PA X es (tA cls W ra)) : PE X (.Tuple es x1 pos) (tE cls W (tupD ra)) :=
  PE_imp (pe_tup h) fun σ H Q ⟨B, S, ρ, g, I, h⟩ => by
    unfold tupD at h
    refine ⟨B, S, ρ, g, I, ?_⟩
    cases ea : ra ρ g with
    | bad => rw [ea] at h; exact h
    | ex n g1 => rw [ea] at h; exact h
    | ok ds g1 =>
      rw [ea] at h
      intro vs H1 S1 I1 e1 r1
      simp only [R.bind_ok] at h
      by_cases hz : ds.length ≤ 1000
      · rw [if_pos hz] at h
        refine ⟨line1000 (by rw [r1.length]; exact hz), fun p hp => ?_⟩
        obtain ⟨I2, e2⟩ := I1.alloc (o := .tup vs) hp
        exact h _ _ _ I2 (e1.trans e2) (.tup upd_same (r1.mono e2.base))
      · rw [if_neg hz] at h
        exact False.elim h
@[simp] def lstO (r : Ar) : Ow := fun ρ g => (r ρ g).bind fun ds g1 => if ds.length ≤ 1000 then .ok (.lst ds) g1 else .bad
theorem po_lst (h : PA X es (tA cls W ra)) : PE X (.List es pos) (tO cls W (lstO ra)) :=
  PE_imp (pe_lst h) fun σ H Q ⟨B, S, ρ, g, I, h⟩ => by
    unfold lstO at h
    refine ⟨B, S, ρ, g, I, ?_⟩
    cases ea : ra ρ g with
    | bad => rw [ea] at h; exact h
    | ex n g1 => rw [ea] at h; exact h
    | ok ds g1 =>
      rw [ea] at h
      intro vs H1 S1 I1 e1 r1
      simp only [R.bind_ok] at h
      by_cases hz : ds.length ≤ 1000
      · rw [if_pos hz] at h
        refine ⟨line1000 (by rw [r1.length]; exact hz), fun p hp => ?_⟩
        obtain ⟨I2, e2⟩ := I1.allocO (o := .lst vs) hp
        exact h p (.lst vs) _ _ I2 (e1.trans e2) (I1.stay hp) (none_back e1 hp) upd_same (.lst r1)
      · rw [if_neg hz] at h
        exact False.elim h
/-- a new thing becomes a datum -/
@[simp] def shareO (f : Ow) : Ex := fun ρ g => (f ρ g).bind fun b g1 => match b with
  | .lst ds => .ok (.list ds) g1
  | _ => .bad
theorem pd_share {f : Ow} (h : PE X e (tO cls W f)) : PE X e (tE cls W (shareO f)) :=
  PE_imp h fun σ H Q ⟨B, S, ρ, g, I, h⟩ => by
    unfold shareO at h
    refine ⟨B, S, ρ, g, I, ?_⟩
    cases ea : f ρ g with
    | bad => rw [ea] at h; exact h
    | ex n g1 => rw [ea] at h; exact h
    | ok b g1 =>
      rw [ea] at h
      intro a o H1 S1 I1 e1 n1 n2 ho hb
      obtain ⟨I2, e2⟩ := I.share I1 e1 n1 n2 ho
      cases hb with
      | dk _ => exact False.elim h
      | dt _ => exact False.elim h
      | mat _ => exact False.elim h
      | lst r => exact h _ _ _ I2 e2 (.lst upd_same (r.mono fun c u q => by rw [upd_ne (ne_of_none q n1)]; exact q))
end
end DL

set_option Elab.async false
set_option linter.all false
set_option maxRecDepth 100000
set_option maxHeartbeats 400000
namespace DL
open PySem PySem.Spec PyProof.Rows L2

/-! ### operators by data -/
def big : Nat := 1000000
theorem big_line {n : Nat} (h : n ≤ big) : n ≤ sizeLine := Nat.le_trans h (by rw [sizeLine_eq]; decide)
theorem big_lt {n : Nat} (h : n < big) : n < sizeLine := Nat.lt_of_lt_of_le h (by rw [sizeLine_eq]; decide)
@[simp] def addD : PyData → PyData → Option PyData
  | .int i, .int j => some (.int (i + j))
  | .tuple xs, .tuple ys => if xs.length + ys.length ≤ big then some (.tuple (xs ++ ys)) else none
  | .list xs, .list ys => if xs.length + ys.length ≤ big then some (.list (xs ++ ys)) else none
  | _, _ => none
@[simp] def subD : PyData → PyData → Option PyData
  | .int i, .int j => some (.int (i - j))
  | _, _ => none
@[simp] def mulD : PyData → PyData → Option PyData
  | .int i, .int j => if (-(2 ^ 64) < i ∧ i < 2 ^ 64) ∨ (-(2 ^ 64) < j ∧ j < 2 ^ 64) then some (.int (i * j)) else none
  | .tuple xs, .int k => if k = 1 then some (.tuple xs) else if xs ≠ [] ∧ 2 ≤ k ∧ k ≤ 1000 ∧ xs.length ≤ 1000 then some (.tuple (List.replicate k.toNat xs).flatten) else none
  | .list xs, .int k => if -1000000 ≤ k ∧ k ≤ 1000000 ∧ xs.length * k.toNat ≤ big then some (.list (List.replicate k.toNat xs).flatten) else none
  | _, _ => none
@[simp] def fdivD : PyData → PyData → Option PyData
  | .int i, .int j => if 0 < j ∧ j < 1073741824 then some (.int (i / j)) else none
  | _, _ => none
@[simp] def modD : PyData → PyData → Option PyData
  | .int i, .int j => if 0 < j then some (.int (i % j)) else none
  | _, _ => none
@[simp] def powD : PyData → PyData → Option PyData
  | .int i, .int j => if 0 ≤ j ∧ j ≤ 1000000 ∧ i.natAbs < 2 ^ 64 then some (.int (i ^ j.toNat)) else none
  | _, _ => none
@[simp] def cmpD (p : Int → Int → Bool) : PyData → PyData → Option PyData
  | .int i, .int j => some (.bool (p i j))
  | _, _ => none
def eqD : PyData → PyData → Option PyData
  | .int i, .int j => some (.bool (decide (i = j)))
  | .none, .int _ => some (.bool false)
  | .int _, .none => some (.bool false)
  | .none, .none => some (.bool true)
  | .str i, .str j => some (.bool (decide (i = j)))
  | .bool i, .bool j => some (.bool (decide (i = j)))
  | x, y => if SeqAt.shaped x = true ∧ SeqAt.shaped y = true then some (.bool (PyData.eqv x y)) else none
def neD (x y : PyData) : Option PyData := match eqD x y with
  | some (.bool b) => some (.bool (!b))
  | _ => none
def inD : PyData → PyData → Option PyData
  | d, .list ds => if SeqAt.shaped d = true ∧ SeqAt.shaped (.list ds) = true then some (.bool (ds.any fun z => PyData.eqv z d)) else none
  | d, .tuple ds => if SeqAt.shaped d = true ∧ SeqAt.shaped (.tuple ds) = true then some (.bool (ds.any fun z => PyData.eqv z d)) else none
  | _, _ => none
/-- within a list or a tuple -/
def rInC (K : PySem.W.Frag) : R2 := fun x y H Q => ∃ d ds, Dp K H x d ∧ ((Dp K H y (.list ds) ∧ SeqAt.shaped (.list ds) = true) ∨ (Dp K H y (.tuple ds) ∧ SeqAt.shaped (.tuple ds) = true)) ∧ SeqAt.shaped d = true ∧ Q (.bl (ds.any fun z => PyData.eqv z d)) H
def rNotInC (K : PySem.W.Frag) : R2 := fun x y H Q => ∃ d ds, Dp K H x d ∧ ((Dp K H y (.list ds) ∧ SeqAt.shaped (.list ds) = true) ∨ (Dp K H y (.tuple ds) ∧ SeqAt.shaped (.tuple ds) = true)) ∧ SeqAt.shaped d = true ∧ Q (.bl (!ds.any fun z => PyData.eqv z d)) H
section
variable {X : Cx}
theorem op_inC (hu : X.A.units + 65 < cLine) : OpR X (compareOp .In) (rInC X.K) := by
  intro pins s σ H x y v u Q I rx ry h
  obtain ⟨d, ds, hd, ⟨he, se⟩ | ⟨he, se⟩, sd, q⟩ := h
  · obtain ⟨as, r1⟩ := Dp.reads I d x v hd rx
    obtain ⟨bs, r2⟩ := Dp.reads I (.list ds) y u he ry
    exact SeqAt.in_list_reads r2 r1 (SeqAt.canLay_of_shaped se) (SeqAt.canLay_of_shaped sd) (room_in_shaped sd hu) ⟨.bl _, H, I, rfl, q⟩
  · obtain ⟨as, r1⟩ := Dp.reads I d x v hd rx
    obtain ⟨bs, r2⟩ := Dp.reads I (.tuple ds) y u he ry
    exact SeqAt.in_tuple_reads r2 r1 (SeqAt.canLay_of_shaped se) (SeqAt.canLay_of_shaped sd) (room_in_shaped sd hu) ⟨.bl _, H, I, rfl, q⟩
theorem op_notInC (hu : X.A.units + 65 < cLine) : OpR X (compareOp .NotIn) (rNotInC X.K) := by
  intro pins s σ H x y v u Q I rx ry h
  obtain ⟨d, ds, hd, ⟨he, se⟩ | ⟨he, se⟩, sd, q⟩ := h
  · obtain ⟨as, r1⟩ := Dp.reads I d x v hd rx
    obtain ⟨bs, r2⟩ := Dp.reads I (.list ds) y u he ry
    exact SeqAt.notIn_list_reads r2 r1 (SeqAt.canLay_of_shaped se) (SeqAt.canLay_of_shaped sd) (room_in_shaped sd hu) ⟨.bl _, H, I, rfl, q⟩
  · obtain ⟨as, r1⟩ := Dp.reads I d x v hd rx
    obtain ⟨bs, r2⟩ := Dp.reads I (.tuple ds) y u he ry
    exact SeqAt.notIn_tuple_reads r2 r1 (SeqAt.canLay_of_shaped se) (SeqAt.canLay_of_shaped sd) (room_in_shaped sd hu) ⟨.bl _, H, I, rfl, q⟩
end
def notInD (x y : PyData) : Option PyData := match inD x y with
  | some (.bool b) => some (.bool (!b))
  | _ => none
section
variable {K : PySem.W.Frag}
theorem spec_i {C : Int → Int → Prop} {f : Int → Int → Int} {op : PyData → PyData → Option PyData} (h : ∀ x y d, op x y = some d → ∃ i j, x = .int i ∧ y = .int j ∧ C i j ∧ d = .int (f i j)) : Spec2 (rI C fun i j => .int (f i j)) op := by
  intro B σ H S ρ g x y d v u Q e I rx ry k
  obtain ⟨i, j, rfl, rfl, c, rfl⟩ := h x y d e
  cases rx
  cases ry
  exact ⟨i, j, rfl, rfl, c, k _ H S I .refl (.int _)⟩
theorem spec_c {p : Int → Int → Bool} : Spec2 (rI0 fun i j => .bl (p i j)) (cmpD p) := by
  intro B σ H S ρ g x y d v u Q e I rx ry k
  cases rx with
  | int i =>
    cases ry with
    | int j =>
      cases e
      exact ⟨i, j, rfl, rfl, k _ H S I .refl (.bl _)⟩
    | _ => cases e
  | _ => cases e
abbrev addR (K : PySem.W.Frag) : R2 := fun x y H Q => (rI0 fun i j => .int (i + j)) x y H Q ∨ (rCatA K x y H Q ∨ rCat x y H Q)
theorem op_addA {X : Cx} : OpR X (binaryOp .Add) (addR X.K) := OpR.or op_add (OpR.or op_catA op_cat)
theorem spec_add : Spec2 (addR K) addD := by
  intro B σ H S ρ g x y d v u Q e I rx ry k
  cases rx with
  | int i =>
    cases ry with
    | int j =>
      cases e
      exact .inl ⟨i, j, rfl, rfl, k _ H S I .refl (.int _)⟩
    | _ => cases e
  | @tup a xs ds hx qx =>
    cases ry with
    | @tup b ys es hy qy =>
      unfold addD at e
      by_cases hl : ds.length + es.length ≤ big
      · simp only [if_pos hl] at e
        cases e
        refine .inr (.inl ⟨a, b, xs, ys, rfl, rfl, .of (I.sub _ _ hx), .of (I.sub _ _ hy), big_line (by rw [qx.length, qy.length]; exact hl), fun z => ?_, fun _ z => ?_, fun _ _ p hp => ?_⟩)
        · subst z
          cases qx
          exact k _ H S I .refl (.tup hy qy)
        · subst z
          cases qy
          exact k _ H S I .refl (by rw [List.append_nil]; exact .tup hx qx)
        · obtain ⟨I2, e2⟩ := I.alloc (o := .tup (xs ++ ys)) hp
          exact k _ _ _ I2 e2 (.tup upd_same ((qx.append qy).mono e2.base))
      · simp only [if_neg hl] at e
        cases e
    | _ => cases e
  | @lst a xs ds hx qx =>
    cases ry with
    | @lst b ys es hy qy =>
      unfold addD at e
      by_cases hl : ds.length + es.length ≤ big
      · simp only [if_pos hl] at e
        cases e
        refine .inr (.inr ⟨a, b, xs, ys, rfl, rfl, I.sub _ _ hx, I.sub _ _ hy, big_line (by rw [qx.length, qy.length]; exact hl), fun p hp => ?_⟩)
        obtain ⟨I2, e2⟩ := I.alloc (o := .lst (xs ++ ys)) hp
        exact k _ _ _ I2 e2 (.lst upd_same ((qx.append qy).mono e2.base))
      · simp only [if_neg hl] at e
        cases e
    | _ => cases e
  | _ => cases e
theorem spec_sub : Spec2 (rI0 fun i j => .int (i - j)) subD := by
  intro B σ H S ρ g x y d v u Q e I rx ry k
  cases rx with
  | int i =>
    cases ry with
    | int j =>
      cases e
      exact ⟨i, j, rfl, rfl, k _ H S I .refl (.int _)⟩
    | _ => cases e
  | _ => cases e
theorem spec_fdiv : Spec2 (rI CDiv fun i j => .int (i / j)) fdivD := spec_i fun x y d e => by
  unfold fdivD at e
  split at e
  · rename_i i j
    by_cases h : 0 < j ∧ j < 1073741824
    · rw [if_pos h] at e; cases e; exact ⟨i, j, rfl, rfl, h, rfl⟩
    · rw [if_neg h] at e; cases e
  · cases e
theorem spec_mod : Spec2 (rI (fun _ j => 0 < j) fun i j => .int (i % j)) modD := spec_i fun x y d e => by
  unfold modD at e
  split at e
  · rename_i i j
    by_cases h : 0 < j
    · rw [if_pos h] at e; cases e; exact ⟨i, j, rfl, rfl, h, rfl⟩
    · rw [if_neg h] at e; cases e
  · cases e
theorem spec_pow : Spec2 (rI CPow fun i j => .int (i ^ j.toNat)) powD := spec_i fun x y d e => by
  unfold powD at e
  split at e
  · rename_i i j
    by_cases h : 0 ≤ j ∧ j ≤ 1000000 ∧ i.natAbs < 2 ^ 64
    · rw [if_pos h] at e; cases e; exact ⟨i, j, rfl, rfl, h, rfl⟩
    · rw [if_neg h] at e; cases e
  · cases e
theorem tuple_mul1 (l : Addr) (items : Array Value) (n : Nat) (dd : Option Addr) (sl : Array (Option Value)) (u : Tok) :
    Meets (Builtin.«tuple.__mul__» ⟨[.ref l, .int 1 u], []⟩) (fun _ R s => s.heap.get? l = some { cls := .type "tuple", dict := dd, data := .seq items n, slots := sl } ∧ R (.ok (.ret (Value.ref l))) s) :=
  .of_wp fun prog w A R s h => by
    obtain ⟨hp, g, d, tk, os⟩ := s
    obtain ⟨hl, h⟩ := h
    have f1 := AutoSeq1.idx_int
    have c1 : (items.isEmpty || (1 : Int) == 1) = true := by simp
    wp_walk using wpAny_loadPart' hl
    exact ⟨_, rfl, h⟩
/-- a tuple, once -/
def rRepT1 (K : PySem.W.Frag) : R2 := fun x y H Q => ∃ l xs, x = .ref l ∧ y = .int 1 ∧ SqT K H l xs ∧ Q (.ref l) H
theorem op_repT1 {X : Cx} : OpR X (binaryOp .Mult) (rRepT1 X.K) := by
  intro pins s σ H x y v u Q I rx ry h
  obtain ⟨l, xs, rfl, rfl, hT, q⟩ := h
  cases rx
  obtain ⟨t, rfl⟩ := ry
  obtain ⟨its, r, ⟨⟨cls, dd, data, sl⟩, ho, hc, n, hd⟩, hs⟩ := I.tuple hT
  simp only at hc hd
  subst hc hd
  exact wpAny_binaryOp_repeat_ref (T := "tuple") (U := "int") (by decide) ⟨_, ho, rfl⟩ (fun s' => typeIs_int s' 1 t) noFill_tuple_mul F.fills_int_mul F.slot_int_rmul repeat_tuple F.slot_int_index.lookup
    (call_meets F.slot_int_rmul (typeIs_int s 1 t) F.entry_int_rmul (F.args_int_rmul_2 _ _) (int_rmul_tuple 1 t l its.toArray n dd sl)
      ⟨ho, rfl, ⟨_, ho, rfl⟩, call_meets F.slot_tuple_mul ⟨_, ho, rfl⟩ F.entry_tuple_mul (F.args_tuple_mul_2 _ _) (tuple_mul1 l its.toArray n dd sl t) ⟨ho, ⟨.ref l, H, I, rfl, q⟩⟩⟩)
abbrev mulR (K : PySem.W.Frag) : R2 := fun x y H Q => (rI CMul fun i j => .int (i * j)) x y H Q ∨ ((rRepT K x y H Q ∨ rRepT1 K x y H Q) ∨ rRep x y H Q)
theorem op_mulA {X : Cx} : OpR X (binaryOp .Mult) (mulR X.K) := OpR.or op_mul (OpR.or (OpR.or op_repT op_repT1) op_rep)
theorem spec_mul : Spec2 (mulR K) mulD := by
  intro B σ H S ρ g x y d v u Q e I rx ry k
  cases rx with
  | int i =>
    cases ry with
    | int j =>
      unfold mulD at e
      by_cases h : (-(2 ^ 64) < i ∧ i < 2 ^ 64) ∨ (-(2 ^ 64) < j ∧ j < 2 ^ 64)
      · simp only [if_pos h] at e; cases e; exact .inl ⟨i, j, rfl, rfl, h, k _ H S I .refl (.int _)⟩
      · simp only [if_neg h] at e; cases e
    | _ => cases e
  | @tup a xs ds hx qx =>
    cases ry with
    | int j =>
      unfold mulD at e
      by_cases h1 : j = 1
      · subst h1
        simp only [if_true] at e
        cases e
        exact .inr (.inl (.inr ⟨a, xs, rfl, rfl, .of (I.sub _ _ hx), k _ H S I .refl (.tup hx qx)⟩))
      · simp only [if_neg h1] at e
        by_cases h : ds ≠ [] ∧ 2 ≤ j ∧ j ≤ 1000 ∧ ds.length ≤ 1000
        · simp only [if_pos h] at e
          cases e
          refine .inr (.inl (.inl ⟨a, j, xs, rfl, rfl, .of (I.sub _ _ hx), fun z => ?_, h.2.1, h.2.2.1, by rw [qx.length]; exact h.2.2.2, fun p hp => ?_⟩))
          · subst z
            cases qx
            exact h.1 rfl
          · obtain ⟨I2, e2⟩ := I.alloc (o := .tup (List.replicate j.toNat xs).flatten) hp
            exact k _ _ _ I2 e2 (.tup upd_same ((qx.flatten _).mono e2.base))
        · simp only [if_neg h] at e; cases e
    | _ => cases e
  | @lst a xs ds hx qx =>
    cases ry with
    | int j =>
      unfold mulD at e
      by_cases h : -1000000 ≤ j ∧ j ≤ 1000000 ∧ ds.length * j.toNat ≤ big
      · simp only [if_pos h] at e
        cases e
        refine .inr (.inr ⟨a, j, xs, rfl, rfl, I.sub _ _ hx, by omega, by omega, big_line (by rw [qx.length]; exact h.2.2), fun p hp => ?_⟩)
        obtain ⟨I2, e2⟩ := I.alloc (o := .lst (List.replicate j.toNat xs).flatten) hp
        exact k _ _ _ I2 e2 (.lst upd_same ((qx.flatten _).mono e2.base))
      · simp only [if_neg h] at e; cases e
    | _ => cases e
  | _ => cases e
abbrev eqR (K : PySem.W.Frag) : R2 := fun x y H Q => rEq x y H Q ∨ rEqD K x y H Q
abbrev neR (K : PySem.W.Frag) : R2 := fun x y H Q => rNe x y H Q ∨ rNeD K x y H Q
theorem eqD_cases {x y d : PyData} (e : eqD x y = some d) : ∃ b, d = .bool b ∧ ((∀ S v u, Rp S v x → Rp S u y → scal v u = true ∧ decide (v = u) = b) ∨ (SeqAt.shaped x = true ∧ SeqAt.shaped y = true ∧ PyData.eqv x y = b)) := by
  unfold eqD at e
  split at e
  · rename_i i j
    cases e
    refine ⟨_, rfl, .inl fun S v u r q => ?_⟩
    cases r; cases q
    exact ⟨rfl, by by_cases h : i = j <;> simp [h]⟩
  · cases e
    refine ⟨_, rfl, .inl fun S v u r q => ?_⟩
    cases r; cases q
    exact ⟨rfl, by simp⟩
  · cases e
    refine ⟨_, rfl, .inl fun S v u r q => ?_⟩
    cases r; cases q
    exact ⟨rfl, by simp⟩
  · cases e
    refine ⟨_, rfl, .inl fun S v u r q => ?_⟩
    cases r; cases q
    exact ⟨rfl, by simp⟩
  · rename_i i j
    cases e
    refine ⟨_, rfl, .inl fun S v u r q => ?_⟩
    cases r; cases q
    exact ⟨rfl, by by_cases h : i = j <;> simp [h]⟩
  · rename_i i j
    cases e
    refine ⟨_, rfl, .inl fun S v u r q => ?_⟩
    cases r; cases q
    exact ⟨rfl, by by_cases h : i = j <;> simp [h]⟩
  · rename_i h1 h2 h3 h4 h5 h6
    by_cases h : SeqAt.shaped x = true ∧ SeqAt.shaped y = true
    · rw [if_pos h] at e; cases e; exact ⟨_, rfl, .inr ⟨h.1, h.2, rfl⟩⟩
    · rw [if_neg h] at e; cases e
theorem spec_eq : Spec2 (eqR K) eqD := by
  intro B σ H S ρ g x y d v u Q e I rx ry k
  obtain ⟨b, rfl, h | ⟨h1, h2, h3⟩⟩ := eqD_cases e
  · obtain ⟨h1, h2⟩ := h S v u rx ry
    exact .inl ⟨h1, by rw [h2]; exact k _ H S I .refl (.bl _)⟩
  · exact .inr ⟨x, y, rx.dp I.sub, ry.dp I.sub, h1, h2, by rw [h3]; exact k _ H S I .refl (.bl _)⟩
theorem spec_ne : Spec2 (neR K) neD := by
  intro B σ H S ρ g x y d v u Q e I rx ry k
  unfold neD at e
  split at e
  · rename_i b he
    cases e
    obtain ⟨b', hb, h⟩ := eqD_cases he
    cases hb
    rcases h with h | ⟨h1, h2, h3⟩
    · obtain ⟨h1, h2⟩ := h S v u rx ry
      exact .inl ⟨h1, by rw [h2]; exact k _ H S I .refl (.bl _)⟩
    · exact .inr ⟨x, y, rx.dp I.sub, ry.dp I.sub, h1, h2, by rw [h3]; exact k _ H S I .refl (.bl _)⟩
  · cases e
theorem inD_cases {x y d : PyData} (e : inD x y = some d) : ∃ ds, ((y = .list ds ∧ SeqAt.shaped (.list ds) = true) ∨ (y = .tuple ds ∧ SeqAt.shaped (.tuple ds) = true)) ∧ SeqAt.shaped x = true ∧ d = .bool (ds.any fun z => PyData.eqv z x) := by
  unfold inD at e
  split at e
  · rename_i ds
    by_cases h : SeqAt.shaped x = true ∧ SeqAt.shaped (.list ds) = true
    · rw [if_pos h] at e; cases e; exact ⟨ds, .inl ⟨rfl, h.2⟩, h.1, rfl⟩
    · rw [if_neg h] at e; cases e
  · rename_i ds
    by_cases h : SeqAt.shaped x = true ∧ SeqAt.shaped (.tuple ds) = true
    · rw [if_pos h] at e; cases e; exact ⟨ds, .inr ⟨rfl, h.2⟩, h.1, rfl⟩
    · rw [if_neg h] at e; cases e
  · cases e
theorem spec_in : Spec2 (rInC K) inD := by
  intro B σ H S ρ g x y d v u Q e I rx ry k
  obtain ⟨ds, ⟨rfl, h2⟩ | ⟨rfl, h2⟩, h1, rfl⟩ := inD_cases e
  · exact ⟨x, ds, rx.dp I.sub, .inl ⟨ry.dp I.sub, h2⟩, h1, k _ H S I .refl (.bl _)⟩
  · exact ⟨x, ds, rx.dp I.sub, .inr ⟨ry.dp I.sub, h2⟩, h1, k _ H S I .refl (.bl _)⟩
theorem spec_notIn : Spec2 (rNotInC K) notInD := by
  intro B σ H S ρ g x y d v u Q e I rx ry k
  unfold notInD at e
  split at e
  · rename_i b he
    cases e
    obtain ⟨ds, ⟨rfl, h2⟩ | ⟨rfl, h2⟩, h1, h3⟩ := inD_cases he
    · cases h3
      exact ⟨x, ds, rx.dp I.sub, .inl ⟨ry.dp I.sub, h2⟩, h1, k _ H S I .refl (.bl _)⟩
    · cases h3
      exact ⟨x, ds, rx.dp I.sub, .inr ⟨ry.dp I.sub, h2⟩, h1, k _ H S I .refl (.bl _)⟩
  · cases e
/-- an item -/
def ixD : PyData → PyData → Option PyData
  | .list ds, .int i => atI ds i
  | .tuple ds, .int i => atI ds i
  | _, _ => none
theorem Rps.atI {S : Hp} {vs : List V} {ds : List PyData} {i : Int} {d : PyData} (r : Rps S vs ds) (e : L2.atI ds i = some d) : ∃ v, L2.atI vs i = some v ∧ Rp S v d := by
  unfold L2.atI at e ⊢
  rw [r.length]
  cases h : ixN ds.length i with
  | none => rw [h] at e; cases e
  | some j =>
    rw [h] at e
    exact r.getD (i := j) e
abbrev ixR (K : PySem.W.Frag) : R2 := fun x y H Q => rIxL K x y H Q ∨ rIxT K x y H Q
theorem spec_ix : Spec2 (ixR K) ixD := by
  intro B σ H S ρ g x y d v u Q e I rx ry k
  cases rx with
  | @lst a xs ds hx qx =>
    cases ry with
    | int i =>
      obtain ⟨w, e1, r1⟩ := qx.atI (show atI ds i = some d from e)
      exact .inl ⟨a, xs, i, w, rfl, rfl, .of (I.sub _ _ hx), e1, k _ H S I .refl r1⟩
    | _ => cases e
  | @tup a xs ds hx qx =>
    cases ry with
    | int i =>
      obtain ⟨w, e1, r1⟩ := qx.atI (show atI ds i = some d from e)
      exact .inr ⟨a, xs, i, w, rfl, rfl, .of (I.sub _ _ hx), e1, k _ H S I .refl r1⟩
    | _ => cases e
  | _ => cases e
end
section
variable {X : Cx} {cls : Nat → Value} {W : WX} {pos : Pos} {a b c : Expr} {fa fb fc : Ex} {k : Nat}
theorem pd_add (ha : PE X a (tE cls W fa)) (hb : PE X b (tE cls W fb)) : PE X (.BinOp a .Add b pos) (tE cls W (opD addD fa fb)) := pd_bin op_addA spec_add ha hb
theorem pd_sub (ha : PE X a (tE cls W fa)) (hb : PE X b (tE cls W fb)) : PE X (.BinOp a .Sub b pos) (tE cls W (opD subD fa fb)) := pd_bin op_sub spec_sub ha hb
theorem pd_mul (ha : PE X a (tE cls W fa)) (hb : PE X b (tE cls W fb)) : PE X (.BinOp a .Mult b pos) (tE cls W (opD mulD fa fb)) := pd_bin op_mulA spec_mul ha hb
theorem pd_fdiv (ha : PE X a (tE cls W fa)) (hb : PE X b (tE cls W fb)) : PE X (.BinOp a .FloorDiv b pos) (tE cls W (opD fdivD fa fb)) := pd_bin op_fdiv spec_fdiv ha hb
theorem pd_mod (ha : PE X a (tE cls W fa)) (hb : PE X b (tE cls W fb)) : PE X (.BinOp a .Mod b pos) (tE cls W (opD modD fa fb)) := pd_bin op_mod spec_mod ha hb
theorem pd_pow (ha : PE X a (tE cls W fa)) (hb : PE X b (tE cls W fb)) : PE X (.BinOp a .Pow b pos) (tE cls W (opD powD fa fb)) := pd_bin op_pow spec_pow ha hb
theorem pd_ix (ha : PE X a (tE cls W fa)) (hb : PE X b (tE cls W fb)) (hs : PlainIx b := by exact fun _ _ => rfl) : PE X (.Subscript a b pos) (tE cls W (opD ixD fa fb)) := PE_imp (pe_ix (IxR.or ix_list ix_tup) ha hb hs) (op_of spec_ix)
theorem un_negA : UnR X (unaryOp .USub) (rU fun i => .int (-i)) := un_neg
@[simp] def negD : PyData → Option PyData
  | .int i => some (.int (-i))
  | _ => none
def Spec1 (r : V → Hp → VK → Prop) (op : PyData → Option PyData) : Prop := ∀ (B : Bs) (σ : L2.St) (H S : Hp) (ρ : Nv) (g : G) (x d : PyData) (v : V) (Q : VK), op x = some d → Good B σ H S ρ g → Rp S v x →
  (∀ w H' S', Good B σ H' S' ρ g → Gr B H S H' S' → Rp S' w d → Q w H') → r v H Q
theorem un_of {r : V → Hp → VK → Prop} {op : PyData → Option PyData} (sp : Spec1 r op) (σ : L2.St) (H : Hp) (Q : VK) (h : tE cls W (unD op fa) σ H Q) : (tE cls W fa) σ H fun x H1 => r x H1 Q := by
  obtain ⟨B, S, ρ, g, I, h⟩ := h
  unfold unD at h
  refine ⟨B, S, ρ, g, I, ?_⟩
  cases ea : fa ρ g with
  | bad => rw [ea] at h; exact h
  | ex n g1 => rw [ea] at h; exact h
  | ok x g1 =>
    rw [ea] at h
    intro v H1 S1 I1 e1 r1
    have h' := EO_gr e1 h
    simp only [R.bind_ok] at h'
    cases eo : op x with
    | none => rw [eo] at h'; exact False.elim h'
    | some d =>
      rw [eo] at h'
      exact sp B σ H1 S1 ρ g1 x d v Q eo I1 r1 h'
theorem pd_neg (ha : PE X a (tE cls W fa)) : PE X (.UnaryOp .USub a pos) (tE cls W (unD negD fa)) := PE_imp (pe_un un_neg ha) (un_of fun B σ H S ρ g x d v Q e I r k => by
  cases r with
  | int i => cases e; exact ⟨i, rfl, k _ H S I .refl (.int _)⟩
  | _ => cases e)
/-! comparisons: the operator's rule and data's, as value and as test -/
structure Cmp (X : Cx) (op : CmpOp) (o : PyData → PyData → Option PyData) : Prop where
  ex : ∃ r, OpR X (compareOp op) r ∧ Spec2 r o
theorem c_lt : Cmp X .Lt (cmpD fun i j => decide (i < j)) := ⟨_, op_lt, spec_c⟩
theorem c_le : Cmp X .LtE (cmpD fun i j => decide (i ≤ j)) := ⟨_, op_le, spec_c⟩
theorem c_gt : Cmp X .Gt (cmpD fun i j => decide (j < i)) := ⟨_, op_gt, spec_c⟩
theorem c_ge : Cmp X .GtE (cmpD fun i j => decide (j ≤ i)) := ⟨_, op_ge, spec_c⟩
theorem hu64 (hr : Room k X.A) : X.A.units + 64 < cLine := hr.units
theorem hu65 (hr : Room k X.A) : X.A.units + 65 < cLine := by have := hr.un; omega
theorem c_eq (hr : Room k X.A) : Cmp X .Eq eqD := ⟨_, OpR.or op_eq (op_eqD (hu64 hr)), spec_eq⟩
theorem c_ne (hr : Room k X.A) : Cmp X .NotEq neD := ⟨_, OpR.or op_ne (op_neD (hu64 hr)), spec_ne⟩
theorem c_in (hr : Room k X.A) : Cmp X .In inD := ⟨_, op_inC (hu65 hr), spec_in⟩
theorem c_notIn (hr : Room k X.A) : Cmp X .NotIn notInD := ⟨_, op_notInC (hu65 hr), spec_notIn⟩
variable {op op' : CmpOp} {o o' : PyData → PyData → Option PyData}
theorem pd_cmp (h : Cmp X op o) (ha : PE X a (tE cls W fa)) (hb : PE X b (tE cls W fb)) (hm : behindInMarks op b = false := by first | exact nomark _ | rfl) : PE X (.Compare a [op] [b] pos) (tE cls W (opD o fa fb)) := by
  obtain ⟨r, h1, h2⟩ := h.ex
  exact pd_cmpO h1 h2 ha hb hm
theorem ptd_cmp (h : Cmp X op o) (ha : PE X a (tE cls W fa)) (hb : PE X b (tE cls W fb)) (hm : behindInMarks op b = false := by first | exact nomark _ | rfl) : PT X (.Compare a [op] [b] pos) (tT cls W (boolD (opD o fa fb))) := by
  obtain ⟨r, h1, h2⟩ := h.ex
  exact ptd_cmpO h1 h2 ha hb hm
/-- a op b op' c -/
@[simp] def chainD (o o' : PyData → PyData → Option PyData) (a b c : Ex) : Ex := fun ρ g => (a ρ g).bind fun x g1 => (b ρ g1).bind fun y g2 => (ofO (o x y) g2).bind fun z g3 => match z with
  | .bool true => (c ρ g3).bind fun w g4 => ofO (o' y w) g4
  | .bool false => .ok (.bool false) g3
  | _ => .bad
theorem chain_of {r r' : R2} (s : Spec2 r o) (s' : Spec2 r' o') (σ : L2.St) (H : Hp) (Q : VK) (h : tE cls W (chainD o o' fa fb fc) σ H Q) : tChain r r' (tE cls W fa) (tE cls W fb) (tE cls W fc) σ H Q := by
  obtain ⟨B, S, ρ, g, I, h⟩ := h
  unfold chainD at h
  refine ⟨B, S, ρ, g, I, ?_⟩
  cases ea : fa ρ g with
  | bad => rw [ea] at h; exact h
  | ex n g1 => rw [ea] at h; exact h
  | ok x g1 =>
    rw [ea] at h
    intro v H1 S1 I1 e1 r1
    refine ⟨B, S1, ρ, g1, I1, ?_⟩
    have h' := EO_gr e1 h
    simp only [R.bind_ok] at h'
    cases eb : fb ρ g1 with
    | bad => rw [eb] at h'; exact h'
    | ex n g2 => rw [eb] at h'; exact h'
    | ok y g2 =>
      rw [eb] at h'
      simp only [R.bind_ok] at h'
      intro u H2 S2 I2 e2 r2
      have h2 := EO_gr e2 h'
      cases eo : o x y with
      | none => rw [eo] at h2; exact False.elim h2
      | some d =>
        rw [eo] at h2
        simp only [ofO_some, R.bind_ok] at h2
        refine s B σ H2 S2 ρ g2 x y d v u _ eo I2 (r1.mono e2.base) r2 fun z H3 S3 I3 e3 r3 => ?_
        have h3 := EO_gr e3 h2
        cases r3 with
        | bl t =>
          refine ⟨t, rfl, ?_⟩
          cases t with
          | false => exact h3 _ H3 S3 I3 .refl (.bl _)
          | true =>
            refine ⟨B, S3, ρ, g2, I3, ?_⟩
            simp only at h3
            cases ec : fc ρ g2 with
            | bad => rw [ec] at h3; exact h3
            | ex n g4 => rw [ec] at h3; exact h3
            | ok w g4 =>
              rw [ec] at h3
              simp only [R.bind_ok] at h3
              intro q H4 S4 I4 e4 r4
              have h4 := EO_gr e4 h3
              cases eo' : o' y w with
              | none => rw [eo'] at h4; exact False.elim h4
              | some d' =>
                rw [eo'] at h4
                exact s' B σ H4 S4 ρ g4 y w d' u q Q eo' I4 ((r2.mono e3.base).mono e4.base) r4 h4
        | _ => exact False.elim h3
theorem pd_chain (h : Cmp X op o) (h' : Cmp X op' o') (ha : PE X a (tE cls W fa)) (hb : PE X b (tE cls W fb)) (hc : PE X c (tE cls W fc)) (hm : lastMarks [op, op'] [b, c] = false := by with_unfolding_all rfl) :
    PE X (.Compare a [op, op'] [b, c] pos) (tE cls W (chainD o o' fa fb fc)) := by
  obtain ⟨r, h1, h2⟩ := h.ex
  obtain ⟨r', h3, h4⟩ := h'.ex
  exact PE_imp (pe_chain h1 h3 ha hb hc hm) (chain_of h2 h4)
theorem ptd_chain (h : Cmp X op o) (h' : Cmp X op' o') (ha : PE X a (tE cls W fa)) (hb : PE X b (tE cls W fb)) (hc : PE X c (tE cls W fc)) (hm : lastMarks [op, op'] [b, c] = false := by with_unfolding_all rfl) :
    PT X (.Compare a [op, op'] [b, c] pos) (tT cls W (boolD (chainD o o' fa fb fc))) := by
  obtain ⟨r, h1, h2⟩ := h.ex
  obtain ⟨r', h3, h4⟩ := h'.ex
  exact PT_imp (pt_chain h1 h3 ha hb hc hm) fun σ H Q z => chain_of h2 h4 σ H _ (boolD_of σ H Q z)
/-- is None -/
@[simp] def isNoneD : PyData → Option PyData
  | .none => some (.bool true)
  | _ => some (.bool false)
@[simp] def notNoneD : PyData → Option PyData
  | .none => some (.bool false)
  | _ => some (.bool true)
theorem sp_isN : Spec1 (fun x H Q => Q (.bl (decide (x = .non))) H) isNoneD := fun B σ H S ρ g x d v Q e I r k => by
  cases r <;> cases e <;> exact k _ H S I .refl (.bl _)
theorem sp_notN : Spec1 (fun x H Q => Q (.bl (!decide (x = .non))) H) notNoneD := fun B σ H S ρ g x d v Q e I r k => by
  cases r <;> cases e <;> exact k _ H S I .refl (.bl _)
theorem pd_isN {j p} (ha : PE X a (tE cls W fa)) : PE X (.Compare a [.Is] [.Constant .none j p] pos) (tE cls W (unD isNoneD fa)) := PE_imp (pe_cmp (pc_isN ha)) (un_of sp_isN)
theorem pd_notN {j p} (ha : PE X a (tE cls W fa)) : PE X (.Compare a [.IsNot] [.Constant .none j p] pos) (tE cls W (unD notNoneD fa)) := PE_imp (pe_cmp (pc_notN ha)) (un_of sp_notN)
theorem ptd_isN {j p} (ha : PE X a (tE cls W fa)) : PT X (.Compare a [.Is] [.Constant .none j p] pos) (tT cls W (boolD (unD isNoneD fa))) := PT_imp (pt_cmp (pc_isN ha)) fun σ H Q h => un_of sp_isN σ H _ (boolD_of σ H Q h)
theorem ptd_notN {j p} (ha : PE X a (tE cls W fa)) : PT X (.Compare a [.IsNot] [.Constant .none j p] pos) (tT cls W (boolD (unD notNoneD fa))) := PT_imp (pt_cmp (pc_notN ha)) fun σ H Q h => un_of sp_notN σ H _ (boolD_of σ H Q h)
/-! built-ins of one argument -/
def Spec1c (r : List V → Hp → VK → Prop) (op : PyData → Option PyData) : Prop := Spec1 (fun v H Q => r [v] H Q) op
theorem pd_call1B {x : Str} {p : Pos} {id : String} {r : List V → Hp → VK → Prop} {op : PyData → Option PyData} (hc : CallR X (.builtin id) r) (sp : Spec1c r op) (hm : X.mg x = none) (hv : bootBuiltins x = some (.builtin id)) (ha : PE X a (tE cls W fa)) (hg : Gl X x := by rfl)
    (hn : x ≠ "__name__" := by decide) (hd : (x == ("__debug__" : Str)) = false := by decide) (hs : starEach [a] X.env = (false, eval a X.env) :: starEach [] X.env := by rfl) (hpl : (backTo pos (starEach [] X.env)).any (·.1) = false := by rfl) :
    PE X (.Call (.Name x p) [a] [] pos) (tE cls W (unD op fa)) := PE_imp (pe_callB hc hg hm hv (pa_cons ha pa_nil hs) hn hd hs hpl) (un_of sp)
theorem pd_call1T {x : Str} {p : Pos} {T : String} {r : List V → Hp → VK → Prop} {op : PyData → Option PyData} (hc : CallR X (.type T) r) (sp : Spec1c r op) (hm : X.mg x = none) (hv : bootBuiltins x = some (.type T)) (ha : PE X a (tE cls W fa)) (hg : Gl X x := by rfl)
    (hn : x ≠ "__name__" := by decide) (hd : (x == ("__debug__" : Str)) = false := by decide) (hs : starEach [a] X.env = (false, eval a X.env) :: starEach [] X.env := by rfl) (hpl : (backTo pos (starEach [] X.env)).any (·.1) = false := by rfl) :
    PE X (.Call (.Name x p) [a] [] pos) (tE cls W (unD op fa)) := PE_imp (pe_callTy hc hg hm hv (pa_cons ha pa_nil hs) hn hd hs hpl) (un_of sp)
@[simp] def lenD : PyData → Option PyData
  | .list ds => some (.int ds.length)
  | .tuple ds => some (.int ds.length)
  | _ => none
theorem sp_len {K : PySem.W.Frag} : Spec1c (fun xs H Q => ∃ x n, xs = [x] ∧ LenV K x H n ∧ Q (.int n) H) lenD := fun B σ H S ρ g x d v Q e I r k => by
  cases r with
  | lst h q => cases e; exact ⟨_, _, rfl, .inl ⟨_, .of (I.sub _ _ h), rfl⟩, by rw [q.length]; exact k _ H S I .refl (.int _)⟩
  | tup h q => cases e; exact ⟨_, _, rfl, .inr ⟨_, .of (I.sub _ _ h), rfl⟩, by rw [q.length]; exact k _ H S I .refl (.int _)⟩
  | _ => cases e
theorem pd_len {p : Pos} (hm : X.mg "len" = none) (ha : PE X a (tE cls W fa)) (hg : Gl X "len" := by rfl) (hs : starEach [a] X.env = (false, eval a X.env) :: starEach [] X.env := by rfl) : PE X (.Call (.Name "len" p) [a] [] pos) (tE cls W (unD lenD fa)) :=
  pd_call1B call_len sp_len hm boot_len ha hg (by decide) (by decide) hs
@[simp] def tupleD : PyData → Option PyData
  | .list ds => some (.tuple ds)
  | .tuple ds => some (.tuple ds)
  | _ => none
theorem sp_tuple {K : PySem.W.Frag} : Spec1c (fun xs H Q => ∃ p ys, xs = [V.ref p] ∧ ((SqL K H p ys ∧ ∀ l, H l = none → Q (V.ref l) (upd H l (.tup ys))) ∨ (SqT K H p ys ∧ Q (V.ref p) H))) tupleD := fun B σ H S ρ g x d v Q e I r k => by
  cases r with
  | @lst a xs ds h q =>
    cases e
    refine ⟨_, _, rfl, .inl ⟨.of (I.sub _ _ h), fun l hl => ?_⟩⟩
    obtain ⟨I2, e2⟩ := I.alloc (o := .tup xs) hl
    exact k _ _ _ I2 e2 (.tup upd_same (q.mono e2.base))
  | tup h q => cases e; exact ⟨_, _, rfl, .inr ⟨.of (I.sub _ _ h), k _ H S I .refl (.tup h q)⟩⟩
  | _ => cases e
theorem pd_tuple {p : Pos} (hm : X.mg "tuple" = none) (ha : PE X a (tE cls W fa)) (hg : Gl X "tuple" := by rfl) (hs : starEach [a] X.env = (false, eval a X.env) :: starEach [] X.env := by rfl) : PE X (.Call (.Name "tuple" p) [a] [] pos) (tE cls W (unD tupleD fa)) :=
  pd_call1T call_tuple_of sp_tuple hm PyProof.Rows.boot_tuple ha hg (by decide) (by decide) hs
@[simp] def listD : PyData → Option PyData
  | .list ds => some (.list ds)
  | .tuple ds => some (.list ds)
  | _ => none
theorem sp_list {K : PySem.W.Frag} : Spec1c (fun xs H Q => ∃ p ys, xs = [V.ref p] ∧ (SqL K H p ys ∨ SqT K H p ys) ∧ ∀ l, H l = none → Q (V.ref l) (upd H l (.lst ys))) listD := fun B σ H S ρ g x d v Q e I r k => by
  cases r with
  | @lst a xs ds h q =>
    cases e
    refine ⟨_, _, rfl, .inl (.of (I.sub _ _ h)), fun l hl => ?_⟩
    obtain ⟨I2, e2⟩ := I.alloc (o := .lst xs) hl
    exact k _ _ _ I2 e2 (.lst upd_same (q.mono e2.base))
  | @tup a xs ds h q =>
    cases e
    refine ⟨_, _, rfl, .inr (.of (I.sub _ _ h)), fun l hl => ?_⟩
    obtain ⟨I2, e2⟩ := I.alloc (o := .lst xs) hl
    exact k _ _ _ I2 e2 (.lst upd_same (q.mono e2.base))
  | _ => cases e
theorem pd_list {p : Pos} (hm : X.mg "list" = none) (ha : PE X a (tE cls W fa)) (hg : Gl X "list" := by rfl) (hs : starEach [a] X.env = (false, eval a X.env) :: starEach [] X.env := by rfl) : PE X (.Call (.Name "list" p) [a] [] pos) (tE cls W (unD listD fa)) :=
  pd_call1T call_list_of sp_list hm PyProof.Rows.boot_list ha hg (by decide) (by decide) hs
/-- the ints of a list -/
def intsD : List PyData → Option (List Int)
  | [] => some []
  | .int i :: ds => (intsD ds).map (i :: ·)
  | _ :: _ => none
theorem intsD_eq : ∀ {ds : List PyData} {ns : List Int}, intsD ds = some ns → ds = ns.map PyData.int
  | [], ns, e => by cases e; rfl
  | d :: ds, ns, e => by
    cases d with
    | int i =>
      unfold intsD at e
      cases h : intsD ds with
      | none => rw [h] at e; cases e
      | some ms =>
        rw [h] at e
        cases e
        rw [List.map_cons, intsD_eq h]
    | _ => cases e
theorem intsD_map : ∀ ns : List Int, intsD (ns.map PyData.int) = some ns
  | [] => rfl
  | n :: ns => by rw [List.map_cons]; unfold intsD; rw [intsD_map ns]; rfl
def sumD : PyData → Option PyData
  | .list ds => (intsD ds).map fun ns => .int ns.sum
  | _ => none
theorem sp_sum {K : PySem.W.Frag} : Spec1c (rSum K) sumD := fun B σ H S ρ g x d v Q e I r k => by
  cases r with
  | @lst a xs ds h q =>
    have e : (intsD ds).map (fun ns => PyData.int ns.sum) = some d := e
    cases hi : intsD ds with
    | none => rw [hi] at e; cases e
    | some ns =>
      rw [hi] at e
      cases e
      rw [intsD_eq hi] at q
      have ex := q.ints
      subst ex
      exact ⟨a, ns, rfl, .of (I.sub _ _ h), k _ H S I .refl (.int _)⟩
  | _ => cases e
theorem pd_sum {p : Pos} (hc : X.calm = true) (hm : X.mg "sum" = none) (ha : PE X a (tE cls W fa)) (hg : Gl X "sum" := by rfl) (hs : starEach [a] X.env = (false, eval a X.env) :: starEach [] X.env := by rfl) : PE X (.Call (.Name "sum" p) [a] [] pos) (tE cls W (unD sumD fa)) :=
  pd_call1B (cr_sum hc) sp_sum hm boot_sum ha hg (by decide) (by decide) hs
/-- isinstance(a, T), T a built-in type -/
def isT (T : String) : PyData → Bool
  | .bool _ => T == "bool" || T == "int"
  | .int _ => T == "int"
  | .str _ => T == "str"
  | .list _ => T == "list"
  | .tuple _ => T == "tuple"
  | _ => false
@[simp] def isiD (T : String) : PyData → Option PyData := fun d => some (.bool (isT T d))
structure KitOk (T : String) : Prop where
  non : kitB "NoneType" T = some (isT T .none)
  bl : kitB "bool" T = some (isT T (.bool true))
  int : kitB "int" T = some (isT T (.int 0))
  str : kitB "str" T = some (isT T (.str (Str.ofString "")))
  lst : kitB "list" T = some (isT T (.list []))
  tup : kitB "tuple" T = some (isT T (.tuple []))
theorem kit_int : KitOk "int" := ⟨by decide +kernel, by decide +kernel, by decide +kernel, by decide +kernel, by decide +kernel, by decide +kernel⟩
theorem kit_bool : KitOk "bool" := ⟨by decide +kernel, by decide +kernel, by decide +kernel, by decide +kernel, by decide +kernel, by decide +kernel⟩
theorem kit_str : KitOk "str" := ⟨by decide +kernel, by decide +kernel, by decide +kernel, by decide +kernel, by decide +kernel, by decide +kernel⟩
theorem kit_list : KitOk "list" := ⟨by decide +kernel, by decide +kernel, by decide +kernel, by decide +kernel, by decide +kernel, by decide +kernel⟩
theorem kit_tuple : KitOk "tuple" := ⟨by decide +kernel, by decide +kernel, by decide +kernel, by decide +kernel, by decide +kernel, by decide +kernel⟩
theorem sp_isi {K : PySem.W.Frag} {T : String} (kt : KitOk T) : Spec1 (fun v H Q => rIsi K [v, .ty T] H Q) (isiD T) := fun B σ H S ρ g x d v Q e I r k => by
  cases e
  have fin : ∀ {t : String} {b : Bool}, TyOf K H v (.type t) → kitB t T = some b → b = isT T x → rIsi K [v, .ty T] H Q := fun {t b} ty h hb => by
    subst hb
    exact ⟨v, .ty T, _, _, _, rfl, .ty T, .base ty, kit_ty h, k _ H S I .refl (.bl _)⟩
  cases r with
  | non => exact fin .non kt.non rfl
  | bl b => exact fin (.bl b) kt.bl rfl
  | int i => exact fin (.int i) kt.int rfl
  | str z => exact fin (.str z) kt.str rfl
  | lst h q => exact fin (.lst (I.sub _ _ h)) kt.lst rfl
  | tup h q => exact fin (.tup (I.sub _ _ h)) kt.tup rfl
theorem pd_isi {p p' : Pos} {T : Str} {t : String} (kt : KitOk t) (hm : X.mg "isinstance" = none) (hmT : X.mg T = none) (hvT : bootBuiltins T = some (.type t)) (ha : PE X a (tE cls W fa)) (hg : Gl X "isinstance" := by rfl) (hgT : Gl X T := by rfl) (hnT : T ≠ "__name__" := by decide) (hdT : (T == ("__debug__" : Str)) = false := by decide)
    (hs : starEach [a, .Name T p'] X.env = (false, eval a X.env) :: starEach [.Name T p'] X.env := by rfl) (hs2 : starEach [.Name T p'] X.env = (false, eval (.Name T p') X.env) :: starEach [] X.env := by rfl) (hpl : (backTo pos (starEach [.Name T p'] X.env)).any (·.1) = false := by rfl) :
    PE X (.Call (.Name "isinstance" p) [a, .Name T p'] [] pos) (tE cls W (unD (isiD t) fa)) :=
  PE_imp (pe_callB call_isi hg hm boot_isinstance (pa_cons ha (pa_cons (pe_bltn (v := .ty t) hgT hmT hvT rfl hnT hdT) pa_nil hs2) hs) (by decide) (by decide) hs hpl) (un_of (sp_isi kt))
end
end DL

set_option Elab.async false
set_option linter.all false
set_option maxRecDepth 100000
set_option maxHeartbeats 400000
namespace DL
open PySem PySem.Spec PyProof.Rows L2

/-! ### slices -/
abbrev Pa := Nv → G → R (Option Int)
section
variable (cls : Nat → Value) (W : WX)
def PaO (B : Bs) (σ : L2.St) (H S : Hp) (ρ : Nv) (Q : Option Int → Hp → Prop) : R (Option Int) → Prop
  | .ok b g' => ∀ H' S', Good B σ H' S' ρ g' → Gr B H S H' S' → Q b H'
  | .ex n g' => ∀ H' S', Good B σ H' S' ρ g' → Gr B H S H' S' → W (cls n) none σ H'
  | .bad => False
def tP (f : Pa) : L2.TO := fun σ H Q => ∃ B S ρ g, Good B σ H S ρ g ∧ PaO cls W B σ H S ρ Q (f ρ g)
end
section
variable {X : Cx} {cls : Nat → Value} {W : WX} {pos : Pos} {a b c : Expr} {fa fb fc : Ex}
theorem PO_imp {e : Option Expr} {t t' : L2.TO} (h : PO X e t) (hi : ∀ σ H Q, t' σ H Q → t σ H Q) : PO X e t' := ⟨fun pins s σ H Q I q => h.run pins s σ H Q I (hi _ _ _ q)⟩
theorem PaO_gr {B : Bs} {σ : L2.St} {H S H1 S1 : Hp} {ρ : Nv} {Q : Option Int → Hp → Prop} {r : R (Option Int)} (e : Gr B H S H1 S1) (h : PaO cls W B σ H S ρ Q r) : PaO cls W B σ H1 S1 ρ Q r := by
  cases r with
  | ok a g => exact fun H' S' I u => h H' S' I (e.trans u)
  | ex n g => exact fun H' S' I u => h H' S' I (e.trans u)
  | bad => exact h
@[simp] def noPart : Pa := fun _ g => .ok none g
@[simp] def somePart (f : Ex) : Pa := fun ρ g => (f ρ g).bind fun d g1 => match d with
  | .int i => .ok (some i) g1
  | _ => .bad
theorem po_no : PO X none (tP cls W noPart) := PO_imp po_none fun σ H Q ⟨B, S, ρ, g, I, h⟩ => h H S I .refl
theorem po_so (ha : PE X a (tE cls W fa)) : PO X (some a) (tP cls W (somePart fa)) := PO_imp (po_some ha) fun σ H Q ⟨B, S, ρ, g, I, h⟩ => by
  unfold somePart at h
  refine ⟨B, S, ρ, g, I, ?_⟩
  cases ea : fa ρ g with
  | bad => rw [ea] at h; exact h
  | ex n g1 => rw [ea] at h; exact h
  | ok x g1 =>
    rw [ea] at h
    intro v H1 S1 I1 e1 r1
    cases r1 with
    | int i => exact ⟨i, rfl, h H1 S1 I1 e1⟩
    | _ => exact False.elim h
def cutP (xs : List PyData) (lo hi : Option Int) : List PyData := (xs.drop (HT.sIx xs.length 0 lo)).take (HT.sIx xs.length xs.length hi - HT.sIx xs.length 0 lo)
theorem Rps.cut {S : Hp} {vs : List V} {ds : List PyData} (r : Rps S vs ds) (lo hi : Option Int) : Rps S (cutV vs lo hi) (cutP ds lo hi) := by
  unfold cutV cutP
  rw [r.length]
  exact (r.drop _).take _
@[simp] def slD (f : Ex) (lo hi : Pa) : Ex := fun ρ g => (f ρ g).bind fun x g1 => (lo ρ g1).bind fun l g2 => (hi ρ g2).bind fun u g3 => match x with
  | .list ds => .ok (.list (cutP ds l u)) g3
  | .tuple ds => .ok (.tuple (cutP ds l u)) g3
  | _ => .bad
theorem pd_slice {lo hi : Option Expr} {fl fh : Pa} {p2 : Pos} (ha : PE X a (tE cls W fa)) (hl : PO X lo (tP cls W fl)) (hh : PO X hi (tP cls W fh)) : PE X (.Subscript a (.Slice lo hi none p2) pos) (tE cls W (slD fa fl fh)) :=
  PE_imp (pe_slice (SlR.or sl_list sl_tupA) ha hl hh) fun σ H Q ⟨B, S, ρ, g, I, h⟩ => by
    unfold slD at h
    refine ⟨B, S, ρ, g, I, ?_⟩
    cases ea : fa ρ g with
    | bad => rw [ea] at h; exact h
    | ex n g1 => rw [ea] at h; exact h
    | ok x g1 =>
      rw [ea] at h
      intro v H1 S1 I1 e1 r1
      refine ⟨B, S1, ρ, g1, I1, ?_⟩
      have h' := EO_gr e1 h
      simp only [R.bind_ok] at h'
      cases eb : fl ρ g1 with
      | bad => rw [eb] at h'; exact h'
      | ex n g2 => rw [eb] at h'; exact h'
      | ok l g2 =>
        rw [eb] at h'
        simp only [R.bind_ok] at h'
        intro H2 S2 I2 e2
        refine ⟨B, S2, ρ, g2, I2, ?_⟩
        have h2 := EO_gr e2 h'
        cases ec : fh ρ g2 with
        | bad => rw [ec] at h2; exact h2
        | ex n g3 => rw [ec] at h2; exact h2
        | ok u g3 =>
          rw [ec] at h2
          simp only [R.bind_ok] at h2
          intro H3 S3 I3 e3
          have h3 := EO_gr e3 h2
          have r3 := (r1.mono e2.base).mono e3.base
          cases r3 with
          | @lst p xs ds hx qx =>
            refine .inl ⟨p, xs, rfl, .of (I3.sub _ _ hx), fun q hq => ?_⟩
            obtain ⟨I4, e4⟩ := I3.alloc (o := .lst (cutV xs l u)) hq
            exact h3 _ _ _ I4 e4 (.lst upd_same ((qx.cut l u).mono e4.base))
          | @tup p xs ds hx qx =>
            refine .inr ⟨p, xs, rfl, .of (I3.sub _ _ hx), fun hw => ?_, fun hw q hq => ?_⟩
            · have ec : cutP ds l u = ds := by
                unfold cutP
                rw [qx.length] at hw
                rw [hw.1, hw.2]
                simp
              have h4 := h3 (.ref p) H3 S3 I3 .refl
              rw [ec] at h4
              exact h4 (.tup hx qx)
            · obtain ⟨I4, e4⟩ := I3.alloc (o := .tup (cutV xs l u)) hq
              exact h3 _ _ _ I4 e4 (.tup upd_same ((qx.cut l u).mono e4.base))
          | _ => exact False.elim h3
end

/-! ### what is walked -/
/-- a step of a walk: the heap as it was, or with one more shared object -/
inductive Gr1 (H S : Hp) : Hp → Hp → Prop
  | same : Gr1 H S H S
  | new {p : Addr} {o : HO} : H p = none → Gr1 H S (upd H p o) (upd S p o)
theorem Gr1.good {B : Bs} {σ : L2.St} {H S H' S' : Hp} {ρ : Nv} {g : G} (e : Gr1 H S H' S') (I : Good B σ H S ρ g) : Good B σ H' S' ρ g ∧ Gr B H S H' S' := by
  cases e with
  | same => exact ⟨I, .refl⟩
  | new h => exact I.alloc h
structure ItOk (J : It) (S : Hp) (ds : List PyData) : Prop where
  go : ∀ i H, i < ds.length → Same S H → J.go i H
  stop : ∀ i H, ds.length ≤ i → Same S H → J.stop i H
  yld : ∀ i H S' x H', i < ds.length → Same S S' → Same S' H → J.yld i H x H' → ∃ d S2, ds[i]? = some d ∧ Gr1 H S' H' S2 ∧ Rp S2 x d
section
variable (cls : Nat → Value) (W : WX)
def IO (B : Bs) (σ : L2.St) (H S : Hp) (ρ : Nv) (Q : It → Hp → Prop) : R (List PyData) → Prop
  | .ok ds g' => ∀ J H' S', Good B σ H' S' ρ g' → Gr B H S H' S' → ItOk J S' ds → Q J H'
  | .ex n g' => ∀ H' S', Good B σ H' S' ρ g' → Gr B H S H' S' → W (cls n) none σ H'
  | .bad => False
def tI (f : Ar) : TI := fun σ H Q => ∃ B S ρ g, Good B σ H S ρ g ∧ IO cls W B σ H S ρ Q (f ρ g)
end
section
variable {X : Cx} {cls : Nat → Value} {W : WX} {pos : Pos} {a b c tg : Expr} {fa fb fc : Ex}
@[simp] def itemsD (f : Ex) : Ar := fun ρ g => (f ρ g).bind fun d g1 => match d with
  | .list ds => .ok ds g1
  | .tuple ds => .ok ds g1
  | _ => .bad
theorem it_list {K : PySem.W.Frag} {S : Hp} {p : Addr} {xs : List V} {ds : List PyData} (hx : S p = some (.lst xs)) (q : Rps S xs ds) : ItOk (Itl K p) S ds := by
  refine ⟨fun i H hi hs => ?_, fun i H hi hs => ⟨xs, .of (hs _ _ hx), by rw [q.length]; exact hi⟩, fun i H S' x H' hi h1 h2 hy => ?_⟩
  · obtain ⟨v, hv, _⟩ := q.getD (List.getElem?_eq_getElem hi)
    exact ⟨xs, v, .of (hs _ _ hx), hv⟩
  · obtain ⟨rfl, hy⟩ := hy
    obtain ⟨d, hd, r⟩ := q.get (hy xs (.of (h2 _ _ (h1 _ _ hx))))
    exact ⟨d, S', hd, .same, r.mono h1⟩
theorem it_tup {K : PySem.W.Frag} {S : Hp} {p : Addr} {xs : List V} {ds : List PyData} (hx : S p = some (.tup xs)) (q : Rps S xs ds) : ItOk (Itt K p) S ds := by
  refine ⟨fun i H hi hs => ?_, fun i H hi hs => ⟨xs, .of (hs _ _ hx), by rw [q.length]; exact hi⟩, fun i H S' x H' hi h1 h2 hy => ?_⟩
  · obtain ⟨v, hv, _⟩ := q.getD (List.getElem?_eq_getElem hi)
    exact ⟨xs, v, .of (hs _ _ hx), hv⟩
  · obtain ⟨rfl, hy⟩ := hy
    obtain ⟨d, hd, r⟩ := q.get (hy xs (.of (h2 _ _ (h1 _ _ hx))))
    exact ⟨d, S', hd, .same, r.mono h1⟩
theorem pid_seq (ha : PE X a (tE cls W fa)) : PI X tg a (tI cls W (itemsD fa)) := by
  refine ⟨fun pins s σ H Q I0 h => ?_⟩
  obtain ⟨B, S, ρ, g, I, h⟩ := h
  unfold itemsD at h
  cases ea : fa ρ g with
  | bad => rw [ea] at h; exact False.elim h
  | ex n g1 =>
    rw [ea] at h
    refine (pi_list ha).run pins s σ H Q I0 ⟨B, S, ρ, g, I, ?_⟩
    rw [ea]
    exact h
  | ok x g1 =>
    rw [ea] at h
    simp only [R.bind_ok] at h
    cases x with
    | list ds =>
      refine (pi_list ha).run pins s σ H Q I0 ⟨B, S, ρ, g, I, ?_⟩
      rw [ea]
      intro v H1 S1 I1 e1 r1
      cases r1 with
      | @lst p xs ds hx qx => exact ⟨p, rfl, ⟨xs, .of (I1.sub _ _ hx)⟩, h _ H1 S1 I1 e1 (it_list hx qx)⟩
    | tuple ds =>
      refine (pi_tup ha).run pins s σ H Q I0 ⟨B, S, ρ, g, I, ?_⟩
      rw [ea]
      intro v H1 S1 I1 e1 r1
      cases r1 with
      | @tup p xs ds hx qx => exact ⟨p, rfl, ⟨xs, .of (I1.sub _ _ hx)⟩, h _ H1 S1 I1 e1 (it_tup hx qx)⟩
    | _ => exact False.elim h
def upFrom (lo : Int) (n : Nat) : List PyData := (List.range n).map fun (k : Nat) => PyData.int (lo + (k : Int))
theorem it_rng (S : Hp) (lo : Int) (n : Nat) : ItOk (Itr lo n) S (upFrom lo n) := by
  have hl : (upFrom lo n).length = n := by unfold upFrom; rw [List.length_map, List.length_range]
  refine ⟨fun i H hi _ => by rw [hl] at hi; exact hi, fun i H hi _ => by rw [hl] at hi; exact hi, fun i H S' x H' hi h1 h2 hy => ?_⟩
  obtain ⟨rfl, rfl⟩ := hy
  rw [hl] at hi
  refine ⟨.int (lo + (i : Int)), S', ?_, .same, .int _⟩
  unfold upFrom
  rw [List.getElem?_map, List.getElem?_range hi]
  rfl
@[simp] def rangeD (f : Ex) : Ar := fun ρ g => (f ρ g).bind fun d g1 => match d with
  | .int n => if n ≤ (big : Int) ∧ -(big : Int) ≤ n then .ok (upFrom 0 n.toNat) g1 else .bad
  | _ => .bad
theorem pid_range {p : Pos} (hm : X.mg "range" = none) (ha : PE X a (tE cls W fa)) (hg : Gl X "range" := by rfl) (hs : starEach [a] X.env = [(false, eval a X.env)] := by rfl) : PI X tg (.Call (.Name "range" p) [a] [] pos) (tI cls W (rangeD fa)) := by
  refine ⟨fun pins s σ H Q I0 h => (pi_range1 hg hm (pa_cons ha pa_nil hs) hs).run pins s σ H Q I0 ?_⟩
  obtain ⟨B, S, ρ, g, I, h⟩ := h
  unfold rangeD at h
  refine ⟨B, S, ρ, g, I, ?_⟩
  cases ea : fa ρ g with
  | bad => rw [ea] at h; exact False.elim h
  | ex n g1 => rw [ea] at h; exact h
  | ok x g1 =>
    rw [ea] at h
    simp only [R.bind_ok] at h
    intro v H1 S1 I1 e1 r1
    cases r1 with
    | int n =>
      simp only at h
      by_cases hn : n ≤ (big : Int) ∧ -(big : Int) ≤ n
      · rw [if_pos hn] at h
        have hb : (big : Int) = 1000000 := rfl
        exact ⟨n, rfl, by omega, by omega, h _ H1 S1 I1 e1 (it_rng S1 0 n.toNat)⟩
      · rw [if_neg hn] at h
        exact False.elim h
    | _ => exact False.elim h
@[simp] def range2D (f f2 : Ex) : Ar := fun ρ g => (f ρ g).bind fun d g1 => (f2 ρ g1).bind fun e g2 => match d, e with
  | .int n, .int m => if n ≤ (big : Int) ∧ -(big : Int) ≤ n ∧ m ≤ (big : Int) ∧ -(big : Int) ≤ m then .ok (upFrom n (m - n).toNat) g2 else .bad
  | _, _ => .bad
theorem pid_range2 {p : Pos} (hm : X.mg "range" = none) (ha : PE X a (tE cls W fa)) (hb : PE X b (tE cls W fb)) (hg : Gl X "range" := by rfl) (hs : starEach [a, b] X.env = [(false, eval a X.env), (false, eval b X.env)] := by rfl) (hs2 : starEach [b] X.env = [(false, eval b X.env)] := by rfl) (hs3 : starEach [a, b] X.env = (false, eval a X.env) :: starEach [b] X.env := by rfl) (hs4 : starEach [b] X.env = (false, eval b X.env) :: starEach [] X.env := by rfl) :
    PI X tg (.Call (.Name "range" p) [a, b] [] pos) (tI cls W (range2D fa fb)) := by
  refine ⟨fun pins s σ H Q I0 h => (pi_range2 hg hm (pa_cons ha (pa_cons hb pa_nil hs4) hs3) hs hs2).run pins s σ H Q I0 ?_⟩
  obtain ⟨B, S, ρ, g, I, h⟩ := h
  unfold range2D at h
  refine ⟨B, S, ρ, g, I, ?_⟩
  cases ea : fa ρ g with
  | bad => rw [ea] at h; exact False.elim h
  | ex n g1 => rw [ea] at h; exact h
  | ok x g1 =>
    rw [ea] at h
    simp only [R.bind_ok] at h
    intro v H1 S1 I1 e1 r1
    refine ⟨B, S1, ρ, g1, I1, ?_⟩
    cases eb : fb ρ g1 with
    | bad => rw [eb] at h; exact False.elim h
    | ex n g2 =>
      rw [eb] at h
      exact fun H' S' I' e' => h H' S' I' (e1.trans e')
    | ok y g2 =>
      rw [eb] at h
      simp only [R.bind_ok] at h
      intro u H2 S2 I2 e2 r2
      cases r1 with
      | int n =>
        cases r2 with
        | int m =>
          simp only at h
          by_cases hn : n ≤ (big : Int) ∧ -(big : Int) ≤ n ∧ m ≤ (big : Int) ∧ -(big : Int) ≤ m
          · rw [if_pos hn] at h
            have hb : (big : Int) = 1000000 := rfl
            exact ⟨n, m, rfl, ⟨by omega, by omega, by omega, by omega⟩, h _ H2 S2 I2 (e1.trans e2) (it_rng S2 n (m - n).toNat)⟩
          · rw [if_neg hn] at h
            exact False.elim h
        | _ => exact False.elim h
      | _ => exact False.elim h
end

/-! ### targets -/
/-- only these slots have changed -/
structure Chg (ts : List Nat) (σ σ' : L2.St) : Prop where
  len : σ'.length = σ.length
  out : ∀ i, i ∉ ts → σ'[i]? = σ[i]?
theorem wipe_in : ∀ {vs : List Nat} {σ : L2.St} {i : Nat}, i ∈ vs → i < σ.length → (wipe σ vs)[i]? = some none
  | v :: vs, σ, i, h, hl => by
    unfold wipe
    by_cases hv : v = i
    · subst hv
      exact List.getElem?_set_self (by rw [wipe_length]; exact hl)
    · rw [List.getElem?_set_ne hv]
      exact wipe_in ((List.mem_cons.mp h).resolve_left fun z => hv z.symm) hl
theorem Chg.wipe {ts vs : List Nat} {σ σ' : L2.St} (c : Chg ts σ σ') (h : ∀ i ∈ ts, i ∈ vs) : L2.wipe σ' vs = L2.wipe σ vs := by
  refine List.ext_getElem? fun i => ?_
  by_cases hi : i ∈ vs
  · by_cases hl : i < σ.length
    · rw [wipe_in hi hl, wipe_in hi (by rw [c.len]; exact hl)]
    · rw [List.getElem?_eq_none (by rw [wipe_length, c.len]; exact Nat.le_of_not_lt hl), List.getElem?_eq_none (by rw [wipe_length]; exact Nat.le_of_not_lt hl)]
  · rw [wipe_out hi, wipe_out hi]
    exact c.out i fun z => hi (h i z)
abbrev Tg := PyData → Nv → Option Nv
def tG (ts : List Nat) (f : Tg) : TG := fun v σ H Q => ∃ B S ρ g d ρ', Good B σ H S ρ g ∧ Rp S v d ∧ f d ρ = some ρ' ∧ ∀ σ', Good B σ' H S ρ' g → Chg ts σ σ' → Q σ' H
theorem Good.setSh {B : Bs} {σ : L2.St} {H S : Hp} {ρ : Nv} {g : G} (I : Good B σ H S ρ g) (i : Nat) {v : V} {d : PyData} (r : Rp S v d) : Good B (σ.set i (some v)) H S (ρ.set i (.sh d)) g := by
  have key : ∀ (j : Nat) (z : Sl), (ρ.set i (.sh d))[j]? = some z → (j = i ∧ z = .sh d ∧ i < ρ.length) ∨ (j ≠ i ∧ ρ[j]? = some z) := fun j z h => by
    by_cases hj : j = i
    · subst hj
      by_cases hl : j < ρ.length
      · rw [List.getElem?_set_self hl] at h
        exact .inl ⟨rfl, (Option.some.inj h).symm, hl⟩
      · rw [List.getElem?_eq_none (by rw [List.length_set]; exact Nat.le_of_not_lt hl)] at h
        cases h
    · rw [List.getElem?_set_ne (Ne.symm hj)] at h
      exact .inr ⟨hj, h⟩
  have at_ne : ∀ j, j ≠ i → (σ.set i (some v))[j]? = σ[j]? := fun j hj => List.getElem?_set_ne (Ne.symm hj)
  refine ⟨I.toFin, by rw [List.length_set, List.length_set]; exact I.len, fun j d' h => ?_, fun j h => ?_, fun j h => ?_, fun j b h => ?_, fun j l b c a h1 h2 h3 h4 => ?_, I.mxSame fun j b h => ?_⟩
  · rcases key j _ h with ⟨rfl, e, hl⟩ | ⟨hj, h⟩
    · cases e
      exact ⟨v, List.getElem?_set_self (by rw [I.len]; exact hl), r⟩
    · rw [at_ne j hj]; exact I.sh j d' h
  · rcases key j _ h with ⟨rfl, e, hl⟩ | ⟨hj, h⟩
    · cases e
    · rw [at_ne j hj]; exact I.dw j h
  · rcases key j _ h with ⟨rfl, e, hl⟩ | ⟨hj, h⟩
    · cases e
    · rw [at_ne j hj]; exact I.sw j h
  · rcases key j _ h with ⟨rfl, e, hl⟩ | ⟨hj, h⟩
    · cases e
    · rw [at_ne j hj]; exact I.ow j b h
  · rcases key j _ h1 with ⟨rfl, e, hl⟩ | ⟨hj, h1⟩
    · cases e
    · rcases key l _ h2 with ⟨rfl, e, hl⟩ | ⟨hl, h2⟩
      · cases e
      · rw [at_ne j hj] at h3
        rw [at_ne l hl] at h4
        exact I.ap j l b c a h1 h2 h3 h4
  · rcases key j _ h with ⟨rfl, e, hl⟩ | ⟨hj, h⟩
    · cases e
    · exact ⟨h, at_ne j hj⟩
theorem chg_set (σ : L2.St) (i : Nat) (v : Option V) : Chg [i] σ (σ.set i v) := ⟨List.length_set, fun j hj => List.getElem?_set_ne fun z => hj (by rw [z]; exact List.mem_cons_self)⟩
theorem Chg.trans {ts us : List Nat} {σ σ1 σ2 : L2.St} (a : Chg ts σ σ1) (b : Chg us σ1 σ2) : Chg (ts ++ us) σ σ2 := ⟨b.len.trans a.len, fun i hi => (b.out i fun z => hi (List.mem_append_right _ z)).trans (a.out i fun z => hi (List.mem_append_left _ z))⟩
@[simp] def nameT (i : Nat) : Tg := fun d ρ => some (ρ.set i (.sh d))
abbrev Tgs := List PyData → Nv → Option Nv
@[simp] def nilT : Tgs := fun ds ρ => match ds with
  | [] => some ρ
  | _ => none
@[simp] def consT (t : Tg) (u : Tgs) : Tgs := fun ds ρ => match ds with
  | d :: r => (t d ρ).bind fun ρ1 => u r ρ1
  | _ => none
@[simp] def tupT (u : Tgs) : Tg := fun d ρ => match d with
  | .tuple ds => u ds ρ
  | _ => none
def tGs (ts : List Nat) (f : Tgs) : TGs := fun vs σ H Q => ∃ B S ρ g ds ρ', Good B σ H S ρ g ∧ Rps S vs ds ∧ f ds ρ = some ρ' ∧ ∀ σ', Good B σ' H S ρ' g → Chg ts σ σ' → Q σ' H
section
variable {X : Cx} {pos : Pos}
theorem PG_imp {e : Expr} {t t' : TG} (h : PG X e t) (hi : ∀ v σ H Q, t' v σ H Q → t v σ H Q) : PG X e t' := ⟨fun pins s σ H v u Q I r q => h.run pins s σ H v u Q I r (hi _ _ _ _ q)⟩
theorem PGs_imp {e : List Expr} {t t' : TGs} (h : PGs X e t) (hi : ∀ v σ H Q, t' v σ H Q → t v σ H Q) : PGs X e t' := ⟨fun pins s σ H v u Q I r q => h.run pins s σ H v u Q I r (hi _ _ _ _ q)⟩
theorem pgd_name (i : Nat) {x : Str} (hN : X.N.Nodup) (hi : X.N[i]? = some x := by rfl) (hx : Loc X.env.scope x := by first | exact Or.inl rfl | exact Or.inr rfl) (hf : X.fn x = true ∨ X.env.scope.names.lookup x = some .local := by first | exact .inl rfl | exact .inr rfl | assumption) :
    PG X (.Name x pos) (tG [i] (nameT i)) := PG_imp (pg_name hN hi hx hf) fun v σ H Q ⟨B, S, ρ, g, d, ρ', I, r, e, k⟩ => by
  cases e
  exact k _ (I.setSh i r) (chg_set σ i _)
theorem pgsd_nil : PGs X [] (tGs [] nilT) := PGs_imp pgs_nil fun v σ H Q ⟨B, S, ρ, g, d, ρ', I, r, e, k⟩ => by
  cases r with
  | nil => cases e; exact ⟨rfl, k _ I ⟨rfl, fun _ _ => rfl⟩⟩
  | cons _ _ => cases e
theorem pgsd_cons {e : Expr} {es : List Expr} {t : Tg} {u : Tgs} {ts us : List Nat} (h1 : PG X e (tG ts t)) (h2 : PGs X es (tGs us u)) (hs : (assignEach (e :: es) X.env).map (·.2) = assign e X.env :: (assignEach es X.env).map (·.2) := by rfl) :
    PGs X (e :: es) (tGs (ts ++ us) (consT t u)) := PGs_imp (pgs_cons h1 h2 hs) fun v σ H Q ⟨B, S, ρ, g, ds, ρ', I, r, e, k⟩ => by
  cases r with
  | nil => cases e
  | @cons v1 d1 vs1 ds1 r1 rr =>
    have e' : (t d1 ρ).bind (fun ρ1 => u ds1 ρ1) = some ρ' := e
    cases et : t d1 ρ with
    | none => rw [et] at e'; cases e'
    | some ρ1 =>
      rw [et] at e'
      exact ⟨v1, vs1, rfl, B, S, ρ, g, d1, ρ1, I, r1, et, fun σ1 I1 c1 => ⟨B, S, ρ1, g, ds1, ρ', I1, rr, e', fun σ2 I2 c2 => k σ2 I2 (c1.trans c2)⟩⟩
theorem pgd_tup {es : List Expr} {k : Nat} {u : Tgs} {us : List Nat} {n : Nat} (hc : X.calm = true) (h : PGs X es (tGs us u)) (hu : ∀ ds ρ ρ', u ds ρ = some ρ' → ds.length = n)
    (hn : (assignEach es X.env).length = n := by rfl) (hst : (assignEach es X.env).findIdx? (·.1) = none := by rfl) : PG X (.Tuple es k pos) (tG us (tupT u)) := PG_imp (pg_tup hc h hn hst) fun v σ H Q ⟨B, S, ρ, g, d, ρ', I, r, e, k⟩ => by
  cases r with
  | @tup a xs ds hx qx => exact ⟨a, xs, rfl, .of (I.sub _ _ hx), qx.length.trans (hu ds ρ ρ' e), B, S, ρ, g, ds, ρ', I, qx, e, k⟩
  | _ => cases e
end
theorem len2 {i j : Nat} (ds : List PyData) (ρ ρ' : Nv) (h : consT (nameT i) (consT (nameT j) nilT) ds ρ = some ρ') : ds.length = 2 := by
  match ds, h with
  | [_, _], _ => rfl
  | [], h => cases h
  | [_], h => cases h
  | _ :: _ :: _ :: _, h => cases h
theorem len3 {i j k : Nat} (ds : List PyData) (ρ ρ' : Nv) (h : consT (nameT i) (consT (nameT j) (consT (nameT k) nilT)) ds ρ = some ρ') : ds.length = 3 := by
  match ds, h with
  | [_, _, _], _ => rfl
  | [], h => cases h
  | [_], h => cases h
  | [_, _], h => cases h
  | _ :: _ :: _ :: _ :: _, h => cases h
theorem len4 {i j k l : Nat} (ds : List PyData) (ρ ρ' : Nv) (h : consT (nameT i) (consT (nameT j) (consT (nameT k) (consT (nameT l) nilT))) ds ρ = some ρ') : ds.length = 4 := by
  match ds, h with
  | [_, _, _, _], _ => rfl
  | [], h => cases h
  | [_], h => cases h
  | [_, _], h => cases h
  | [_, _, _], h => cases h
  | _ :: _ :: _ :: _ :: _ :: _, h => cases h

/-! ### list comprehensions -/
@[simp] def wipeD (ρ : Nv) : List Nat → Nv
  | [] => ρ
  | v :: vs => (wipeD ρ vs).set v .no
theorem Good.setNo {B : Bs} {σ : L2.St} {H S : Hp} {ρ : Nv} {g : G} (I : Good B σ H S ρ g) (i : Nat) (v : Option V) : Good B (σ.set i v) H S (ρ.set i .no) g := by
  have key : ∀ (j : Nat) (z : Sl), z ≠ .no → (ρ.set i .no)[j]? = some z → j ≠ i ∧ ρ[j]? = some z := fun j z hz h => by
    by_cases hj : j = i
    · subst hj
      by_cases hl : j < ρ.length
      · rw [List.getElem?_set_self hl] at h
        exact absurd (Option.some.inj h).symm hz
      · rw [List.getElem?_eq_none (by rw [List.length_set]; exact Nat.le_of_not_lt hl)] at h
        cases h
    · rw [List.getElem?_set_ne (Ne.symm hj)] at h
      exact ⟨hj, h⟩
  have at_ne : ∀ j, j ≠ i → (σ.set i v)[j]? = σ[j]? := fun j hj => List.getElem?_set_ne (Ne.symm hj)
  refine ⟨I.toFin, by rw [List.length_set, List.length_set]; exact I.len, fun j d' h => ?_, fun j h => ?_, fun j h => ?_, fun j b h => ?_, fun j l b c a h1 h2 h3 h4 => ?_, I.mxSame fun j b h => ?_⟩
  · obtain ⟨hj, h⟩ := key j (.sh d') (fun z => nomatch z) h
    rw [at_ne j hj]; exact I.sh j d' h
  · obtain ⟨hj, h⟩ := key j .dr (fun z => nomatch z) h
    rw [at_ne j hj]; exact I.dw j h
  · obtain ⟨hj, h⟩ := key j .sc (fun z => nomatch z) h
    rw [at_ne j hj]; exact I.sw j h
  · obtain ⟨hj, h⟩ := key j (.ow b) (fun z => nomatch z) h
    rw [at_ne j hj]; exact I.ow j b h
  · obtain ⟨hj, h1⟩ := key j (.ow b) (fun z => nomatch z) h1
    obtain ⟨hl, h2⟩ := key l (.ow c) (fun z => nomatch z) h2
    rw [at_ne j hj] at h3
    rw [at_ne l hl] at h4
    exact I.ap j l b c a h1 h2 h3 h4
  · obtain ⟨hj, h⟩ := key j (.ow b) (fun z => nomatch z) h
    exact ⟨h, at_ne j hj⟩
theorem Good.wiped {B : Bs} {σ : L2.St} {H S : Hp} {ρ : Nv} {g : G} (I : Good B σ H S ρ g) : ∀ vs : List Nat, Good B (wipe σ vs) H S (wipeD ρ vs) g
  | [] => I
  | v :: vs => (I.wiped vs).setNo v none
/-- a slot set or an evaluation does not need the other slots: the state of the outer slots behind growth -/
theorem Good.back {B : Bs} {σ σ1 : L2.St} {H S H1 S1 : Hp} {ρ ρ1 : Nv} {g g1 : G} (I : Good B σ H S ρ g) (I1 : Good B σ1 H1 S1 ρ1 g1) (e : Gr B H S H1 S1) : Good B σ H1 S1 ρ g1 := I.grow e I1.sub I1.dr
def compD (tg : Tg) (cond : Te) (elt : Ex) : List PyData → Nv → G → R (List PyData)
  | [], _, g => .ok [] g
  | d :: ds, ρ, g => match tg d ρ with
    | none => .bad
    | some ρ1 => match cond ρ1 g with
      | .ok true g1 => match elt ρ1 g1 with
        | .ok x g2 => (compD tg cond elt ds ρ g2).bind fun xs g3 => .ok (x :: xs) g3
        | _ => .bad
      | .ok false g1 => compD tg cond elt ds ρ g1
      | _ => .bad
@[simp] def yesT : Te := fun _ g => .ok true g
@[simp] def lcO (fi : Ar) (own : List Nat) (tg : Tg) (cond : Te) (elt : Ex) : Ow := fun ρ g => (fi ρ g).bind fun ds g1 => if ds.length ≤ big then (compD tg cond elt ds (wipeD ρ own) g1).bind fun xs g2 => .ok (.lst xs) g2 else .bad
theorem compD_noex {tg : Tg} {cond : Te} {elt : Ex} : ∀ {ds : List PyData} {ρ : Nv} {g g' : G} {n : Nat}, compD tg cond elt ds ρ g ≠ .ex n g'
  | [], ρ, g, g', n, h => by cases h
  | d :: ds, ρ, g, g', n, h => by
    unfold compD at h
    split at h
    · cases h
    · split at h
      · split at h
        · rename_i x g2 _
          cases e : compD tg cond elt ds _ g2 with
          | ok a g3 => rw [e] at h; cases h
          | ex n2 g3 => exact compD_noex e
          | bad => rw [e] at h; cases h
        · cases h
      · exact compD_noex h
      · cases h
/-- no exception may leave a comprehension's step -/
abbrev W0 : WX := fun _ _ _ _ => False
section
variable {X : Cx} {cls : Nat → Value} {W : WX} {pos : Pos}
theorem PTs_imp {e : List Expr} {t t' : TT} (h : PTs X e t) (hi : ∀ σ H Q, t' σ H Q → t σ H Q) : PTs X e t' := ⟨fun pins s σ H Q I q => h.run pins s σ H Q I (hi _ _ _ q)⟩
theorem ptsd_nil : PTs X [] (tT cls W yesT) := PTs_imp pts_nil fun σ H Q ⟨B, S, ρ, g, I, h⟩ => h H S I .refl
theorem ptsd_one {c : Expr} {f : Te} (h : PT X c (tT cls W f)) : PTs X [c] (tT cls W f) := pts_one h
/-- the reading of a comprehension -/
theorem lc_of {ts own : List Nat} {fi : Ar} {tg : Tg} {cond : Te} {elt : Ex} (hts : ∀ i ∈ ts, i ∈ own) (σ : L2.St) (H : Hp) (Q : VK) (h : tO cls W (lcO fi own tg cond elt) σ H Q) :
    tLc (tI cls W fi) (tG ts tg) (tT cls W0 cond) (tE cls W0 elt) own σ H Q := by
  obtain ⟨B, S, ρ, g, I, h⟩ := h
  unfold lcO at h
  refine ⟨B, S, ρ, g, I, ?_⟩
  cases ei : fi ρ g with
  | bad => rw [ei] at h; exact h
  | ex n g1 => rw [ei] at h; exact h
  | ok ds g1 =>
    rw [ei] at h
    simp only [R.bind_ok] at h
    by_cases hz : ds.length ≤ big
    · rw [if_pos hz] at h
      intro J H1 S1 I1 e1 it D hD
      have nD : H D = none := none_back e1 hD
      have hDA : B.live = true → D ≠ B.A := fun hl z => I1.neA hD hl z.symm
      obtain ⟨I2, e2⟩ := I1.allocO (o := .lst []) hD
      -- the walk's state: the list so far, what is left
      refine ⟨fun i m H' => i + m = ds.length ∧ ∃ S' g' vs xs, Good B σ H' S' ρ g' ∧ Gr B (upd H1 D (.lst [])) S1 (upd H' D (.lst [])) S' ∧ H' D = some (.lst vs) ∧ S' D = none ∧ Rps S' vs xs ∧ vs.length ≤ i ∧
        OO cls W B σ H S ρ Q ((compD tg cond elt (ds.drop i) (wipeD ρ own) g').bind fun ys g2 => .ok (.lst (xs ++ ys)) g2), ?_, ?_⟩
      · exact ⟨ds.length, by omega, S1, g1, [], [], I2, by rw [upd_upd]; exact .refl, upd_same, I1.stay hD, .nil, Nat.le_refl _, h⟩
      · rintro i m H' ⟨him, S', g', vs, xs, I3, e3, hv, sD, rv, hvl, h3⟩
        have e3' : Same S1 S' := e3.base
        by_cases hi : i < ds.length
        · refine .inr ⟨it.go i H' hi (e3'.trans I3.sub), fun H'' => ∃ m', m' < m ∧ (i + 1 + m' = ds.length ∧ ∃ S' g' vs xs, Good B σ H'' S' ρ g' ∧ Gr B (upd H1 D (.lst [])) S1 (upd H'' D (.lst [])) S' ∧ H'' D = some (.lst vs) ∧ S' D = none ∧ Rps S' vs xs ∧ vs.length ≤ i + 1 ∧
            OO cls W B σ H S ρ Q ((compD tg cond elt (ds.drop (i + 1)) (wipeD ρ own) g').bind fun ys g2 => .ok (.lst (xs ++ ys)) g2)), fun H'' z => z, fun x H4 hy => ?_⟩
          obtain ⟨d, S4, hd, gr1, rd⟩ := it.yld i H' S' x H4 hi e3' I3.sub hy
          obtain ⟨I4, e4⟩ := gr1.good I3
          have hdrop : ds.drop i = d :: ds.drop (i + 1) := by
            rw [List.drop_eq_getElem_cons hi]
            rw [List.getElem?_eq_getElem hi] at hd
            rw [Option.some.inj hd]
          rw [hdrop] at h3
          unfold compD at h3
          -- growth goes on beside D
          have step : ∀ {H5 S5 : Hp}, Gr B H' S' H5 S5 → Gr B (upd H1 D (.lst [])) S1 (upd H5 D (.lst [])) S5 := fun {H5 S5} e => by
            refine e3.trans ⟨fun a o q n => ?_, e.base, fun a q => ?_, fun a q => ?_⟩
            · by_cases ha : a = D
              · subst ha; rw [upd_same] at q ⊢; exact q
              · rw [upd_ne ha] at q ⊢; exact e.keep a o q n
            · rcases e.new a q with z | z
              · exact .inl z
              · by_cases ha : a = D
                · subst ha; rw [hv] at z; cases z
                · exact .inr (by rw [upd_ne ha]; exact z)
            · by_cases ha : a = D
              · subst ha; rw [upd_same]; simp
              · rw [upd_ne ha] at q ⊢; exact e.there a q
          cases et : tg d (wipeD ρ own) with
          | none => simp only [et, R.bind_bad] at h3; exact False.elim h3
          | some ρ1 =>
            simp only [et] at h3
            refine ⟨B, S4, wipeD ρ own, g', d, ρ1, I4.wiped own, rd, et, fun σ1 I5 ch => ⟨by rw [ch.wipe hts]; exact (Chg.wipe (ts := own) ⟨by rw [wipe_length], fun j hj => wipe_out hj⟩ fun _ z => z), B, S4, ρ1, g', I5, ?_⟩⟩
            cases ec : cond ρ1 g' with
            | bad => simp only [ec, R.bind_bad] at h3; exact False.elim h3
            | ex n g5 => simp only [ec, R.bind_bad] at h3; exact False.elim h3
            | ok b g5 =>
              intro H6 S6 I6 e6
              have I6' := (I4.back I6 e6)
              have e46 : Gr B H' S' H6 S6 := e4.trans e6
              cases b with
              | false =>
                rw [if_neg Bool.false_ne_true]
                simp only [ec] at h3
                exact ⟨m - 1, by omega, by omega, S6, g5, vs, xs, I6', step e46, e46.keep D _ hv hDA, none_of e46 (by rw [hv]; simp) sD, rv.mono e46.base, by omega, h3⟩
              | true =>
                rw [if_pos rfl]
                simp only [ec] at h3
                refine ⟨B, S6, ρ1, g5, I6, ?_⟩
                cases ee : elt ρ1 g5 with
                | bad => simp only [ee, R.bind_bad] at h3; exact False.elim h3
                | ex n g6 => simp only [ee, R.bind_bad] at h3; exact False.elim h3
                | ok y g6 =>
                  simp only [ee] at h3
                  intro v H7 S7 I7 e7 r7
                  have I7' := I6'.back I7 e7
                  have e77 : Gr B H' S' H7 S7 := e46.trans e7
                  have hD7 := e77.keep D _ hv hDA
                  have sD7 := none_of e77 (by rw [hv]; simp) sD
                  refine ⟨vs, hD7, big_lt (by omega), m - 1, by omega, by omega, S7, g6, vs ++ [v], xs ++ [y], ?_, by rw [upd_upd]; exact step e77, upd_same, sD7, (rv.mono e77.base).append (.cons r7 .nil), by rw [List.length_append]; exact Nat.succ_le_succ hvl, ?_⟩
                  · -- the list at D is nobody's
                    have eD : Gr B H7 S7 (upd H7 D (.lst (vs ++ [v]))) S7 ∨ True := .inr trivial
                    refine ⟨⟨fun a o q => ?_, fun a o q n => ?_, I7'.base, I7'.new, fun a q => ?_, I7'.no, ?_⟩, I7'.len, I7'.sh, I7'.dw, I7'.sw, fun j b q => ?_, I7'.ap, I7'.mxMove (Same.refl _) (fun i b h => ⟨⟨b, h⟩, rfl⟩) (fun i rows h => h) (fun j rows a' q k => ?_) fun j rows a' cs _ q k k3 x hx => ?_⟩
                    · rw [upd_ne (ne_of_none q sD7)]; exact I7'.sub _ _ q
                    · have hB : B.H D = none := by
                        cases z : B.H D with
                        | none => rfl
                        | some u => exact absurd nD (I.there D (by rw [z]; simp))
                      rw [upd_ne (ne_of_none q hB)]; exact I7'.keep a o q n
                    · by_cases ha : a = D
                      · subst ha; rw [upd_same]; simp
                      · rw [upd_ne ha]; exact I7'.there a q
                    · exact I7'.dr.mono (Same.refl _) fun hl => upd_ne (Ne.symm (hDA hl))
                    · obtain ⟨a, o, h1, h2, h4, h5, h6, h7⟩ := I7'.ow j b q
                      obtain ⟨a', o', k1, _, _, _, k5, _⟩ := I.ow j b q
                      have ea : a' = a := by
                        rw [h1] at k1
                        injection k1 with k1
                        injection k1 with k1
                        injection k1 with k1
                        exact k1.symm
                      subst ea
                      have hne : a' ≠ D := fun z => by rw [z, nD] at k5; cases k5
                      exact ⟨a', o, h1, h2, h4, h5, by rw [upd_ne hne]; exact h6, h7⟩
                    · obtain ⟨a0, o, k1, _, _, _, k5, _⟩ := I.ow j _ q
                      have ea := addr_of k k1
                      subst ea
                      have hne : a' ≠ D := fun z => by rw [z, nD] at k5; cases k5
                      exact upd_ne hne
                    · have g7 := (I7'.mx j rows a' cs q k k3).1.row (I7'.rowsAt q k k3) hx
                      have hne : x ≠ D := fun z => by
                        subst z
                        obtain ⟨a0, o0, l1, _, l3, _, l5, _⟩ := I.ow j _ q
                        have ea := addr_of k l1
                        subst ea
                        have hne : a' ≠ x := fun z => by rw [z, nD] at l5; cases l5
                        have l7 := e3.keep a' o0 (by rw [upd_ne hne]; exact e1.keep a' o0 l5 l3) l3
                        rw [upd_ne hne] at l7
                        have l6 := e77.keep a' o0 l7 l3
                        rw [k3] at l6
                        rw [← l6] at l5
                        exact ((I.mx j rows a' cs q k l5).1.row (I.rowsAt q k l5) hx).2.2.2 nD
                      exact ⟨upd_ne hne, g7.1⟩
                  · cases eR : compD tg cond elt (ds.drop (i + 1)) (wipeD ρ own) g6 with
                    | bad => rw [eR] at h3; exact h3
                    | ex n g7 => exact absurd eR compD_noex
                    | ok ys g7 =>
                      rw [eR] at h3
                      simp only [R.bind_ok] at h3 ⊢
                      rw [List.append_assoc]
                      exact h3
        · have hdrop : ds.drop i = [] := List.drop_eq_nil_of_le (by omega)
          rw [hdrop] at h3
          simp only [compD, R.bind_ok, List.append_nil] at h3
          refine .inl ⟨it.stop i H' (by omega) (e3'.trans I3.sub), ?_⟩
          refine h3 D (.lst vs) H' S' I3 ?_ sD nD hv (.lst rv)
          refine e1.trans ⟨fun a o q n => ?_, e3.base, fun a q => ?_, fun a q => ?_⟩
          · have ha : a ≠ D := ne_of_none q hD
            have z := e3.keep a o (by rw [upd_ne ha]; exact q) n
            rw [upd_ne ha] at z
            exact z
          · rcases e3.new a q with z | z
            · exact .inl z
            · by_cases ha : a = D
              · subst ha; exact .inr hD
              · rw [upd_ne ha] at z; exact .inr z
          · by_cases ha : a = D
            · subst ha; rw [hv]; simp
            · have z := e3.there a (by rw [upd_ne ha]; exact q)
              rw [upd_ne ha] at z
              exact z
    · rw [if_neg hz] at h
      exact False.elim h
theorem po_lc {elt tg iter : Expr} {ifs : List Expr} {scope : Scope} {own : List (Str × Nat)} {ts : List Nat} {fi : Ar} {ft : Tg} {fc : Te} {fe : Ex} (hc : X.calm = true) (hN : X.N.Nodup) (hi : PI X tg iter (tI cls W fi)) (ok : BlkOk X.N X.env.scope scope own)
    (hg : ∀ (s : Shared) (H : Hp) (C : Addr) (cl : List (Str × Addr)) (fp : List Addr), PG (X.blk s H scope (compEnvC scope cl C X.env) fp) tg (tG ts ft)) (ht : ∀ (s : Shared) (H : Hp) (C : Addr) (cl : List (Str × Addr)) (fp : List Addr), PTs (X.blk s H scope (compEnvC scope cl C X.env) fp) ifs (tT cls W0 fc))
    (he : ∀ (s : Shared) (H : Hp) (C : Addr) (cl : List (Str × Addr)) (fp : List Addr), PE (X.blk s H scope (compEnvC scope cl C X.env) fp) elt (tE cls W0 fe)) (hts : ∀ i ∈ ts, i ∈ own.map (·.2) := by decide) (hs : ∀ x, foldedSetIterable iter X.env x = pure x := by intro _; rfl) :
    PE X (.ListComp elt [⟨tg, iter, ifs, 0⟩] scope pos) (tO cls W (lcO fi (own.map (·.2)) ft fc fe)) := PE_imp (pe_lc hc hN hi ok hg ht he hs) (lc_of hts)
end
end DL

set_option Elab.async false
set_option linter.all false
set_option maxRecDepth 100000
set_option maxHeartbeats 400000
namespace DL
open PySem PySem.Spec PyProof.Rows L2

/-! ### statements -/
inductive SR where
  | nx (ρ : Nv) (g : G) | rt (d : PyData) (g : G) | bk (ρ : Nv) (g : G) | ct (ρ : Nv) (g : G) | ex (n : Nat) (ρ : Nv) (g : G) | bad
abbrev Sm := Nv → G → SR
section
variable (cls : Nat → Value) (W : WX)
def SO (B : Bs) (S : Hp) (D : Ends) : SR → Prop
  | .nx ρ g => ∀ σ' H' S', Good B σ' H' S' ρ g → Same S S' → D.nx σ' H'
  | .rt d g => ∀ v H' S', Fin B H' S' g → Rp S' v d → D.rt v H'
  | .bk ρ g => ∀ σ' H' S', Good B σ' H' S' ρ g → Same S S' → D.bk σ' H'
  | .ct ρ g => ∀ σ' H' S', Good B σ' H' S' ρ g → Same S S' → D.ct σ' H'
  | .ex n ρ g => ∀ σ' H' S', Good B σ' H' S' ρ g → Same S S' → W (cls n) none σ' H'
  | .bad => False
def tS (s : Sm) : TS := fun D σ H => ∃ B S ρ g, Good B σ H S ρ g ∧ SO cls W B S D (s ρ g)
end
section
variable {X : Cx} {cls : Nat → Value} {W : WX} {pos : Pos} {a b c : Expr} {fa fb fc : Ex} {D : Ends} {σ : L2.St} {H : Hp} {st : Stmt} {rest : List Stmt}
theorem SO_gr {B : Bs} {S S1 : Hp} {r : SR} (e : Same S S1) (h : SO cls W B S D r) : SO cls W B S1 D r := by
  cases r with
  | nx ρ g => exact fun σ' H' S' I u => h σ' H' S' I (e.trans u)
  | rt d g => exact h
  | bk ρ g => exact fun σ' H' S' I u => h σ' H' S' I (e.trans u)
  | ct ρ g => exact fun σ' H' S' I u => h σ' H' S' I (e.trans u)
  | ex n ρ g => exact fun σ' H' S' I u => h σ' H' S' I (e.trans u)
  | bad => exact h
@[simp] def stE (f : Ex) (k : PyData → Sm) : Sm := fun ρ g => match f ρ g with
  | .ok d g1 => k d ρ g1
  | .ex n g1 => .ex n ρ g1
  | .bad => .bad
theorem st_of {f : Ex} {k : PyData → Sm} {Q : VK} (h : tS cls W (stE f k) D σ H) (hq : ∀ B S ρ g d v H1, Good B σ H1 S ρ g → Rp S v d → SO cls W B S D (k d ρ g) → Q v H1) : tE cls W f σ H Q := by
  obtain ⟨B, S, ρ, g, I, h⟩ := h
  unfold stE at h
  refine ⟨B, S, ρ, g, I, ?_⟩
  cases ea : f ρ g with
  | bad => rw [ea] at h; exact h
  | ex n g1 =>
    rw [ea] at h
    exact fun H' S' I' e => h σ H' S' I' e.base
  | ok x g1 =>
    rw [ea] at h
    exact fun v H1 S1 I1 e1 r1 => hq B S1 ρ g1 x v H1 I1 r1 (SO_gr e1.base h)
def setS (i : Nat) (f : Ex) : Sm := stE f fun d ρ g => .nx (ρ.set i (.sh d)) g
theorem psd_set (i : Nat) {x : Str} {pos' : Pos} (hN : X.N.Nodup) (ha : PE X a (tE cls W fa)) (hi : X.N[i]? = some x := by rfl) (hx : Loc X.env.scope x := by first | exact Or.inl rfl | exact Or.inr rfl) (hs : swapsWith a (some (.Name x pos')) pos.line X.env = pure false := by rfl)
    (hf : X.fn x = true ∨ X.env.scope.names.lookup x = some .local := by first | exact .inl rfl | exact .inr rfl | assumption) : PS X (.Assign [.Name x pos'] a pos) (tS cls W (setS i fa)) :=
  PS_imp (ps_set hN hi hx ha hs hf) fun D σ H h => st_of h fun B S ρ g d v H1 I r q => q _ _ _ (I.setSh i r) (Same.refl _)
def asgS (f : Ex) (t : Tg) : Sm := stE f fun d ρ g => match t d ρ with
  | some ρ1 => .nx ρ1 g
  | none => .bad
theorem psd_asg {tg : Expr} {ts : List Nat} {t : Tg} (ha : PE X a (tE cls W fa)) (hg : PG X tg (tG ts t)) (hs : swapsWithSole [tg] a pos.line X.env = pure false := by rfl) (hw : swappedStores [tg] a X.env = pure none := by rfl)
    (h1 : (assignEach [tg] X.env).map (·.2) = [assign tg X.env] := by rfl) : PS X (.Assign [tg] a pos) (tS cls W (asgS fa t)) :=
  PS_imp (ps_asg ha hg hs hw h1) fun D σ H h => st_of h fun B S ρ g d v H1 I r q => by
    cases et : t d ρ with
    | none => simp only [et] at q; exact False.elim q
    | some ρ1 =>
      simp only [et] at q
      exact ⟨B, S, ρ, g, d, ρ1, I, r, et, fun σ' I' _ => q _ _ _ I' (Same.refl _)⟩
def dropS (f : Ex) : Sm := stE f fun _ ρ g => .nx ρ g
theorem psd_expr (ha : PE X a (tE cls W fa)) (hs : swapsWith a none pos.line X.env = pure false := by rfl) : PS X (.Expr a pos) (tS cls W (dropS fa)) :=
  PS_imp (ps_expr ha hs) fun D σ H h => st_of h fun B S ρ g d v H1 I r q => q _ _ _ I (Same.refl _)
def retS (f : Ex) : Sm := stE f fun d _ g => .rt d g
theorem psd_ret (ha : PE X a (tE cls W fa)) : PS X (.Return (some a) pos) (tS cls W (retS fa)) :=
  PS_imp (ps_ret ha) fun D σ H h => st_of h fun B S ρ g d v H1 I r q => q _ _ _ I.toFin r
@[simp] def nextS : Sm := fun ρ g => .nx ρ g
theorem psd_pass : PS X (.Pass pos) (tS cls W nextS) := PS_imp ps_pass fun D σ H ⟨B, S, ρ, g, I, h⟩ => h _ _ _ I (Same.refl _)
theorem psd_break : PS X (.Break pos) (tS cls W fun ρ g => .bk ρ g) := PS_imp ps_break fun D σ H ⟨B, S, ρ, g, I, h⟩ => h _ _ _ I (Same.refl _)
theorem psd_continue : PS X (.Continue pos) (tS cls W fun ρ g => .ct ρ g) := PS_imp ps_continue fun D σ H ⟨B, S, ρ, g, I, h⟩ => h _ _ _ I (Same.refl _)
@[simp] def seqS (s t : Sm) : Sm := fun ρ g => match s ρ g with
  | .nx ρ1 g1 => t ρ1 g1
  | r => r
theorem pssd_nil : PSs X [] (tS cls W nextS) := PSs_imp pss_nil fun D σ H ⟨B, S, ρ, g, I, h⟩ => h _ _ _ I (Same.refl _)
theorem pssd_cons {s t : Sm} (h1 : PS X st (tS cls W s)) (h2 : PSs X rest (tS cls W t)) : PSs X (st :: rest) (tS cls W (seqS s t)) := PSs_imp (pss_cons h1 h2) fun D σ H ⟨B, S, ρ, g, I, h⟩ => by
  unfold seqS at h
  refine ⟨B, S, ρ, g, I, ?_⟩
  cases es : s ρ g with
  | nx ρ1 g1 =>
    rw [es] at h
    exact fun σ' H' S' I' e => ⟨B, S', ρ1, g1, I', SO_gr e h⟩
  | rt d g1 => rw [es] at h; exact h
  | bk ρ1 g1 => rw [es] at h; exact h
  | ct ρ1 g1 => rw [es] at h; exact h
  | ex n ρ1 g1 => rw [es] at h; exact h
  | bad => rw [es] at h; exact h
theorem pssd_one {s : Sm} (h1 : PS X st (tS cls W s)) : PSs X [st] (tS cls W s) := pss_one h1
@[simp] def ifS (c : Te) (s t : Sm) : Sm := fun ρ g => match c ρ g with
  | .ok true g1 => s ρ g1
  | .ok false g1 => t ρ g1
  | .ex n g1 => .ex n ρ g1
  | .bad => .bad
theorem psd_if {ss ts : List Stmt} {tc : Te} {s t : Sm} (hc : PT X c (tT cls W tc)) (hs : PSs X ss (tS cls W s)) (ht : PSs X ts (tS cls W t)) : PS X (.If c ss ts pos) (tS cls W (ifS tc s t)) := PS_imp (ps_if hc hs ht) fun D σ H ⟨B, S, ρ, g, I, h⟩ => by
  unfold ifS at h
  refine ⟨B, S, ρ, g, I, ?_⟩
  cases es : tc ρ g with
  | bad => rw [es] at h; exact h
  | ex n g1 => rw [es] at h; exact fun H' S' I' e => h _ _ _ I' e.base
  | ok k g1 =>
    rw [es] at h
    intro H1 S1 I1 e1
    cases k with
    | true => exact ⟨B, S1, ρ, g1, I1, SO_gr e1.base h⟩
    | false => exact ⟨B, S1, ρ, g1, I1, SO_gr e1.base h⟩
/-- two names at once, from the right -/
@[simp] def parS (i j : Nat) (f k : Ex) : Sm := fun ρ g => match (f ρ g).bind fun x g1 => (k ρ g1).bind fun y g2 => R.ok (x, y) g2 with
  | .ok (x, y) g1 => .nx ((ρ.set i (.sh x)).set j (.sh y)) g1
  | .ex n g1 => .ex n ρ g1
  | .bad => .bad
theorem psd_par (i j : Nat) {x y : Str} {px py pt : Pos} {kt k2 pt2} (hc : X.calm = true) (hN : X.N.Nodup) (ha : PE X a (tE cls W fa)) (hb : PE X b (tE cls W fb)) (hi : X.N[i]? = some x := by rfl) (hj : X.N[j]? = some y := by rfl) (hij : i ≠ j := by decide)
    (hx : X.env.scope.names.lookup x = some .local := by rfl) (hy : X.env.scope.names.lookup y = some .local := by rfl)
    (hw : swappedStores [.Tuple [.Name x px, .Name y py] kt pt] (.Tuple [a, b] k2 pt2) X.env = pure (some [x, y]) := by rfl)
    (hs : swapsWithSole [.Tuple [.Name x px, .Name y py] kt pt] (.Tuple [a, b] k2 pt2) pos.line X.env = pure false := by rfl) (hsa : starEach [a, b] X.env = (false, eval a X.env) :: starEach [b] X.env := by rfl) (hsb : starEach [b] X.env = (false, eval b X.env) :: starEach [] X.env := by rfl) :
    PS X (.Assign [.Tuple [.Name x px, .Name y py] kt pt] (.Tuple [a, b] k2 pt2) pos) (tS cls W (parS i j fa fb)) :=
  PS_imp (ps_par hc hN hi hj hij hx hy (pa_cons ha (pa_cons hb pa_nil hsb) hsa) hw hs) fun D σ H ⟨B, S, ρ, g, I, h⟩ => by
    unfold parS at h
    refine ⟨B, S, ρ, g, I, ?_⟩
    cases ea : fa ρ g with
    | bad => rw [ea] at h; exact h
    | ex n g1 => rw [ea] at h; exact fun H' S' I' e => h _ _ _ I' e.base
    | ok u g1 =>
      rw [ea] at h
      intro v H1 S1 I1 e1 r1
      refine ⟨B, S1, ρ, g1, I1, ?_⟩
      simp only [R.bind_ok] at h
      cases eb : fb ρ g1 with
      | bad => rw [eb] at h; exact h
      | ex n g2 => rw [eb] at h; exact fun H' S' I' e => h _ _ _ I' (e1.base.trans e.base)
      | ok z g2 =>
        rw [eb] at h
        simp only [R.bind_ok] at h
        intro w H2 S2 I2 e2 r2
        exact ⟨v, w, rfl, h _ _ _ ((I2.setSh i (r1.mono e2.base)).setSh j r2) (e1.base.trans e2.base)⟩
end

/-! ### things of one's own -/
section
variable {B : Bs} {σ : L2.St} {H S : Hp} {ρ : Nv} {g : G}
/-- a thing of one's own is changed -/
theorem Good.mutO (I : Good B σ H S ρ g) {i : Nat} {b b' : Ob} {a : Addr} {o' : HO} (hi : ρ[i]? = some (.ow b)) (ha : σ[i]? = some (some (.ref a))) (r : ObAt S b' o') (nm : ∀ rows, b' ≠ .mat rows) : Good B σ (upd H a o') S (ρ.set i (.ow b')) g := by
  obtain ⟨a', o, h1, h2, h3, h4, h5, h6⟩ := I.ow i b hi
  have e := addr_of ha h1
  subst e
  have hl : i < ρ.length := (List.getElem?_eq_some_iff.mp hi).1
  have key : ∀ (j : Nat) (z : Sl), (ρ.set i (.ow b'))[j]? = some z → (j = i ∧ z = .ow b') ∨ (j ≠ i ∧ ρ[j]? = some z) := fun j z h => by
    by_cases hj : j = i
    · subst hj
      rw [List.getElem?_set_self hl] at h
      exact .inl ⟨rfl, (Option.some.inj h).symm⟩
    · rw [List.getElem?_set_ne (Ne.symm hj)] at h
      exact .inr ⟨hj, h⟩
  have isow : ∀ (j : Nat) (c : Ob), (ρ.set i (.ow b'))[j]? = some (.ow c) → ∃ c', ρ[j]? = some (.ow c') := fun j c h => by
    rcases key j _ h with ⟨rfl, _⟩ | ⟨_, h⟩
    · exact ⟨b, hi⟩
    · exact ⟨c, h⟩
  refine ⟨⟨fun c o q => ?_, fun c o q n => ?_, I.base, I.new, fun c q => ?_, I.no, I.dr.mono (Same.refl _) fun hl => upd_ne (Ne.symm (h3 hl))⟩, by rw [List.length_set]; exact I.len, fun j d h => ?_, fun j h => ?_, fun j h => ?_, fun j c h => ?_, fun j l c d x k1 k2 k3 k4 => ?_, I.mxMove (Same.refl _) (fun j c h => ⟨isow j c h, rfl⟩) (fun j rows h => ?_) (fun j rows x h h' => ?_) fun j rows x cs _ h h' h2' c hc => ?_⟩
  · rw [upd_ne (ne_of_none q h2)]; exact I.sub _ _ q
  · rw [upd_ne (ne_of_none q h4)]; exact I.keep c o q n
  · by_cases hc : c = a
    · subst hc; rw [upd_same]; simp
    · rw [upd_ne hc]; exact I.there c q
  · rcases key j _ h with ⟨rfl, e⟩ | ⟨_, h⟩
    · cases e
    · exact I.sh j d h
  · rcases key j _ h with ⟨rfl, e⟩ | ⟨_, h⟩
    · cases e
    · exact I.dw j h
  · rcases key j _ h with ⟨rfl, e⟩ | ⟨_, h⟩
    · cases e
    · exact I.sw j h
  · rcases key j _ h with ⟨rfl, e⟩ | ⟨hj, h⟩
    · cases e
      exact ⟨a, o', ha, h2, h3, h4, upd_same, r⟩
    · obtain ⟨x, u, q1, q2, q3, q4, q5, q6⟩ := I.ow j c h
      have hx : x ≠ a := fun z => hj (I.ap j i c b a h hi (by rw [q1, z]) ha)
      exact ⟨x, u, q1, q2, q3, q4, by rw [upd_ne hx]; exact q5, q6⟩
  · obtain ⟨c', k1⟩ := isow j c k1
    obtain ⟨d', k2⟩ := isow l d k2
    exact I.ap j l c' d' x k1 k2 k3 k4
  · rcases key j _ h with ⟨rfl, e⟩ | ⟨_, h⟩
    · injection e with e
      exact absurd e.symm (nm rows)
    · exact h
  · rcases key j _ h with ⟨rfl, e⟩ | ⟨hj, h⟩
    · injection e with e
      exact absurd e.symm (nm rows)
    · exact upd_ne fun z => hj (I.ap j i _ b a h hi (by rw [h', z]) ha)
  · obtain ⟨R, A1, _⟩ := I.mx j rows x cs h h' h2'
    exact ⟨upd_ne fun z => A1 i b a hi ha (by rw [← z]; exact hc), (R.row (I.rowsAt h h' h2') hc).1⟩
/-- a thing of one's own becomes a datum -/
theorem Good.shut (I : Good B σ H S ρ g) {i : Nat} {ds : List PyData} (hi : ρ[i]? = some (.ow (.lst ds))) : ∃ S', Same S S' ∧ Good B σ H S' (ρ.set i (.sh (.list ds))) g := by
  obtain ⟨a, o, h1, h2, h3, h4, h5, h6⟩ := I.ow i _ hi
  have hl : i < ρ.length := (List.getElem?_eq_some_iff.mp hi).1
  cases h6 with
  | @lst _ vs r =>
    have sm : Same S (upd S a (.lst vs)) := fun c u q => by rw [upd_ne (ne_of_none q h2)]; exact q
    have key : ∀ (j : Nat) (z : Sl), (ρ.set i (.sh (.list ds)))[j]? = some z → (j = i ∧ z = .sh (.list ds)) ∨ (j ≠ i ∧ ρ[j]? = some z) := fun j z h => by
      by_cases hj : j = i
      · subst hj
        rw [List.getElem?_set_self hl] at h
        exact .inl ⟨rfl, (Option.some.inj h).symm⟩
      · rw [List.getElem?_set_ne (Ne.symm hj)] at h
        exact .inr ⟨hj, h⟩
    refine ⟨_, sm, ⟨fun c u q => ?_, I.keep, I.base.trans sm, fun c q => ?_, I.there, fun hl => by rw [upd_ne (Ne.symm (h3 hl))]; exact I.no hl, I.dr.mono sm fun _ => rfl⟩, by rw [List.length_set]; exact I.len, fun j d h => ?_, fun j h => ?_, fun j h => ?_, fun j c h => ?_, fun j l c d x k1 k2 k3 k4 => ?_, I.mxMove sm (fun j c h => ?_) (fun j rows h => ?_) (fun _ _ _ _ _ => rfl) fun j rows x cs _ h h' h2' c hc => ⟨rfl, ?_⟩⟩
    · by_cases hc : c = a
      · subst hc; rw [upd_same] at q; rw [← q]; exact h5
      · rw [upd_ne hc] at q; exact I.sub _ _ q
    · by_cases hc : c = a
      · subst hc; exact .inr h4
      · rw [upd_ne hc] at q; exact I.new c q
    · rcases key j _ h with ⟨rfl, e⟩ | ⟨_, h⟩
      · cases e
        exact ⟨.ref a, h1, .lst upd_same (r.mono sm)⟩
      · obtain ⟨v, q1, q2⟩ := I.sh j d h
        exact ⟨v, q1, q2.mono sm⟩
    · rcases key j _ h with ⟨rfl, e⟩ | ⟨_, h⟩
      · cases e
      · exact I.dw j h
    · rcases key j _ h with ⟨rfl, e⟩ | ⟨_, h⟩
      · cases e
      · exact I.sw j h
    · rcases key j _ h with ⟨rfl, e⟩ | ⟨hj, h⟩
      · cases e
      · obtain ⟨x, u, q1, q2, q3, q4, q5, q6⟩ := I.ow j c h
        have hx : x ≠ a := fun z => hj (I.ap j i c _ a h hi (by rw [q1, z]) h1)
        exact ⟨x, u, q1, by rw [upd_ne hx]; exact q2, q3, q4, q5, q6.mono sm⟩
    · rcases key j _ k1 with ⟨rfl, e⟩ | ⟨_, k1⟩
      · cases e
      · rcases key l _ k2 with ⟨rfl, e⟩ | ⟨_, k2⟩
        · cases e
        · exact I.ap j l c d x k1 k2 k3 k4
    · rcases key j _ h with ⟨rfl, e⟩ | ⟨_, h⟩
      · cases e
      · exact ⟨⟨c, h⟩, rfl⟩
    · rcases key j _ h with ⟨rfl, e⟩ | ⟨_, h⟩
      · cases e
      · exact h
    · obtain ⟨R, A1, _⟩ := I.mx j rows x cs h h' h2'
      rw [upd_ne fun z => A1 i _ a hi h1 (by rw [← z]; exact hc)]
      exact (R.row (I.rowsAt h h' h2') hc).1
/-- a name takes a thing that nobody else holds -/
theorem Good.setOw {H0 S0 : Hp} {g0 : G} (I0 : Good B σ H0 S0 ρ g0) (I : Good B σ H S ρ g) (gr : Gr B H0 S0 H S) {i : Nat} {b : Ob} {a : Addr} {o : HO} (n1 : S a = none) (n2 : H0 a = none) (ho : H a = some o) (r : ObAt S b o) (nm : ∀ rows, b ≠ .mat rows) : Good B (σ.set i (some (.ref a))) H S (ρ.set i (.ow b)) g := by
  have key : ∀ (j : Nat) (z : Sl), (ρ.set i (.ow b))[j]? = some z → (j = i ∧ z = .ow b ∧ i < ρ.length) ∨ (j ≠ i ∧ ρ[j]? = some z) := fun j z h => by
    by_cases hj : j = i
    · subst hj
      by_cases hl : j < ρ.length
      · rw [List.getElem?_set_self hl] at h
        exact .inl ⟨rfl, (Option.some.inj h).symm, hl⟩
      · rw [List.getElem?_eq_none (by rw [List.length_set]; exact Nat.le_of_not_lt hl)] at h
        cases h
    · rw [List.getElem?_set_ne (Ne.symm hj)] at h
      exact .inr ⟨hj, h⟩
  have at_ne : ∀ j, j ≠ i → (σ.set i (some (V.ref a)))[j]? = σ[j]? := fun j hj => List.getElem?_set_ne (Ne.symm hj)
  have other : ∀ (j : Nat) (c : Ob), ρ[j]? = some (.ow c) → σ[j]? ≠ some (some (.ref a)) := fun j c h z => by
    obtain ⟨x, u, q1, _, _, _, q5, _⟩ := I0.ow j c h
    have e := addr_of z q1
    subst e
    rw [n2] at q5
    cases q5
  refine ⟨I.toFin, by rw [List.length_set, List.length_set]; exact I.len, fun j d' h => ?_, fun j h => ?_, fun j h => ?_, fun j c h => ?_, fun j l c d x h1 h2 h3 h4 => ?_, fun j rows x cs h h' h2' => ?_⟩
  · rcases key j _ h with ⟨rfl, e, hl⟩ | ⟨hj, h⟩
    · cases e
    · rw [at_ne j hj]; exact I.sh j d' h
  · rcases key j _ h with ⟨rfl, e, hl⟩ | ⟨hj, h⟩
    · cases e
    · rw [at_ne j hj]; exact I.dw j h
  · rcases key j _ h with ⟨rfl, e, hl⟩ | ⟨hj, h⟩
    · cases e
    · rw [at_ne j hj]; exact I.sw j h
  · rcases key j _ h with ⟨rfl, e, hl⟩ | ⟨hj, h⟩
    · cases e
      refine ⟨a, o, List.getElem?_set_self (by rw [I.len]; exact hl), n1, fun hl z => I0.neA n2 hl z.symm, ?_, ho, r⟩
      cases q : B.H a with
      | none => rfl
      | some u => exact absurd n2 (I0.there a (by rw [q]; simp))
    · rw [at_ne j hj]; exact I.ow j c h
  · rcases key j _ h1 with ⟨ej, e, hl⟩ | ⟨hj, k1⟩
    · rcases key l _ h2 with ⟨el, e2, hl2⟩ | ⟨hl2, k2⟩
      · rw [ej, el]
      · rw [ej, List.getElem?_set_self (by rw [I.len]; exact hl)] at h3
        rw [at_ne l hl2] at h4
        injection h3 with h3
        injection h3 with h3
        injection h3 with h3
        subst h3
        exact absurd h4 (other l d k2)
    · rcases key l _ h2 with ⟨el, e2, hl2⟩ | ⟨hl2, k2⟩
      · rw [el, List.getElem?_set_self (by rw [I.len]; exact hl2)] at h4
        rw [at_ne j hj] at h3
        injection h4 with h4
        injection h4 with h4
        injection h4 with h4
        subst h4
        exact absurd h3 (other j c k1)
      · rw [at_ne j hj] at h3
        rw [at_ne l hl2] at h4
        exact I.ap j l c d x k1 k2 h3 h4
  · rcases key j _ h with ⟨_, e, _⟩ | ⟨hj, h⟩
    · injection e with e
      exact absurd e.symm (nm rows)
    · rw [at_ne j hj] at h'
      obtain ⟨R, A1, A2⟩ := I.mx j rows x cs h h' h2'
      refine ⟨R, fun l c y k1 k2 hy => ?_, fun l rows' y cs' hl k1 k2 k3 => ?_⟩
      · rcases key l _ k1 with ⟨el, _, hl⟩ | ⟨hl, k1⟩
        · rw [el, List.getElem?_set_self (by rw [I.len]; exact hl)] at k2
          injection k2 with k2
          injection k2 with k2
          injection k2 with k2
          subst k2
          obtain ⟨x0, o0, l1, _, l3, _, l5, _⟩ := I0.ow j _ h
          have q := addr_of h' l1
          subst q
          have l6 := gr.keep x o0 l5 l3
          rw [h2'] at l6
          rw [← l6] at l5
          exact ((I0.mx j rows x cs h h' l5).1.row (I0.rowsAt h h' l5) hy).2.2.2 n2
        · rw [at_ne l hl] at k2
          exact A1 l c y k1 k2 hy
      · rcases key l _ k1 with ⟨_, e, _⟩ | ⟨hl', k1⟩
        · injection e with e
          exact absurd e.symm (nm rows')
        · rw [at_ne l hl'] at k2
          exact A2 l rows' y cs' hl k1 k2 k3
end
section
variable {X : Cx} {cls : Nat → Value} {W : WX} {pos : Pos} {a b c : Expr} {fa fb fc : Ex} {D : Ends} {σ : L2.St} {H : Hp} {st : Stmt} {rest : List Stmt}
@[simp] def notMat : Ob → Bool
  | .mat _ => false
  | _ => true
@[simp] def setOS (i : Nat) (f : Ow) : Sm := fun ρ g => match f ρ g with
  | .ok b g1 => if notMat b = true then .nx (ρ.set i (.ow b)) g1 else .bad
  | .ex n g1 => .ex n ρ g1
  | .bad => .bad
theorem setOS_of {i : Nat} {f : Ow} (h : tS cls W (setOS i f) D σ H) : tO cls W f σ H fun x H1 => D.nx (σ.set i (some x)) H1 := by
  obtain ⟨B, S, ρ, g, I, h⟩ := h
  unfold setOS at h
  refine ⟨B, S, ρ, g, I, ?_⟩
  cases ea : f ρ g with
  | bad => rw [ea] at h; exact h
  | ex n g1 => rw [ea] at h; exact fun H' S' I' e => h σ H' S' I' e.base
  | ok b g1 =>
    rw [ea] at h
    simp only at h
    by_cases hn : notMat b = true
    · rw [if_pos hn] at h
      exact fun a o H1 S1 I1 e1 n1 n2 ho r => h _ _ _ (I.setOw I1 e1 n1 n2 ho r fun rows z => by rw [z] at hn; cases hn) e1.base
    · rw [if_neg hn] at h
      exact False.elim h
theorem psd_setO (i : Nat) {x : Str} {pos' : Pos} {fo : Ow} (hN : X.N.Nodup) (ha : PE X a (tO cls W fo)) (hi : X.N[i]? = some x := by rfl) (hx : Loc X.env.scope x := by first | exact Or.inl rfl | exact Or.inr rfl) (hs : swapsWith a (some (.Name x pos')) pos.line X.env = pure false := by rfl)
    (hf : X.fn x = true ∨ X.env.scope.names.lookup x = some .local := by first | exact .inl rfl | exact .inr rfl | assumption) : PS X (.Assign [.Name x pos'] a pos) (tS cls W (setOS i fo)) :=
  PS_imp (ps_set hN hi hx ha hs hf) fun D σ H h => setOS_of h
/-- x = [.. for ..], x a local -/
theorem psd_setLcO (i : Nat) {y : Str} {py : Pos} {elt tg iter : Expr} {ifs : List Expr} {scope : Scope} {own : List (Str × Nat)} {lpos : Pos} {ts : List Nat} {fi : Ar} {ft : Tg} {fc : Te} {fe : Ex} (hc : X.calm = true) (hN : X.N.Nodup)
    (hsw : swapsWith (.ListComp elt [⟨tg, iter, ifs, 0⟩] scope lpos) (some (.Name y py)) pos.line X.env = pure true) (hi : PI X tg iter (tI cls W fi)) (ok : BlkOk X.N X.env.scope scope own)
    (hg : ∀ (s : Shared) (H : Hp) (C : Addr) (cl : List (Str × Addr)) (fp : List Addr), PG (X.blk s H scope (compEnvC scope cl C X.env) fp) tg (tG ts ft)) (ht : ∀ (s : Shared) (H : Hp) (C : Addr) (cl : List (Str × Addr)) (fp : List Addr), PTs (X.blk s H scope (compEnvC scope cl C X.env) fp) ifs (tT cls W0 fc))
    (he : ∀ (s : Shared) (H : Hp) (C : Addr) (cl : List (Str × Addr)) (fp : List Addr), PE (X.blk s H scope (compEnvC scope cl C X.env) fp) elt (tE cls W0 fe)) (hts : ∀ i ∈ ts, i ∈ own.map (·.2) := by decide) (hy : X.N[i]? = some y := by rfl) (hyl : X.env.scope.names.lookup y = some .local := by rfl)
    (hs : ∀ x, foldedSetIterable iter X.env x = pure x := by intro _; rfl) :
    PS X (.Assign [.Name y py] (.ListComp elt [⟨tg, iter, ifs, 0⟩] scope lpos) pos) (tS cls W (setOS i (lcO fi (own.map (·.2)) ft fc fe))) :=
  PS_imp (ps_setLc hc hN hy hyl hsw hi ok hg ht he hs) fun D σ H h => lc_of hts σ H _ (setOS_of h)
/-- a thing of one's own is read as a datum from here on -/
@[simp] def shutS (i : Nat) (s : Sm) : Sm := fun ρ g => match ρ[i]? with
  | some (.ow (.lst ds)) => s (ρ.set i (.sh (.list ds))) g
  | _ => .bad
theorem pssd_shut (i : Nat) {s : Sm} (h : PSs X rest (tS cls W s)) : PSs X rest (tS cls W (shutS i s)) := PSs_imp h fun D σ H ⟨B, S, ρ, g, I, h⟩ => by
  unfold shutS at h
  cases e : ρ[i]? with
  | none => rw [e] at h; exact False.elim h
  | some z =>
    rw [e] at h
    cases z with
    | ow b =>
      cases b with
      | lst ds =>
        obtain ⟨S', sm, I'⟩ := I.shut e
        exact ⟨B, S', _, g, I', SO_gr sm h⟩
      | _ => exact False.elim h
    | _ => exact False.elim h
/-- x = [.. for ..], read as a datum at once -/
theorem pssd_setLc (i : Nat) {s : Sm} {f : Ow} (h1 : PS X st (tS cls W (setOS i f))) (h2 : PSs X rest (tS cls W s)) : PSs X (st :: rest) (tS cls W (seqS (setOS i f) (shutS i s))) := pssd_cons h1 (pssd_shut i h2)
@[simp] def appS (i : Nat) (f : Ex) : Sm := fun ρ g => match f ρ g with
  | .ok d g1 => match ρ[i]? with
    | some (.ow (.lst ds)) => if ds.length < big then .nx (ρ.set i (.ow (.lst (ds ++ [d])))) g1 else .bad
    | _ => .bad
  | .ex n g1 => (match ρ[i]? with
    | some (.ow (.lst _)) => .ex n ρ g1
    | _ => .bad)
  | .bad => .bad
theorem psd_app (i : Nat) {x : Str} {p apos cpos : Pos} (ha : PE X a (tE cls W fa)) (hN : X.N[i]? = some x := by rfl) (hv : Vis X.env.scope x := by first | exact Or.inl rfl | exact Or.inr (Or.inl rfl) | exact Or.inr (Or.inr rfl)) (hd : (x == ("__debug__" : Str)) = false := by decide) (hcd : (x == ("__classdict__" : Str)) = false := by decide)
    (hb : attributeBase (.Name x p) "append" X.env (eval (.Name x p) X.env) = eval (.Name x p) X.env := by rfl)
    (hz : (((((backTo cpos (starEach (a :: []) X.env)).all fun x => !x.1) && (backToKw cpos (keywordEach [] X.env)).all fun x => x.1.isSome) && decide (((a :: ([] : List Expr)).length + ([] : List Keyword).length + if ([] : List Keyword).isEmpty = true then 0 else 1) < 30)) = true) := by rfl)
    (hl : (apos.endLine == cpos.line) = true := by rfl) (hs : starEach [a] X.env = (false, eval a X.env) :: starEach [] X.env := by rfl) (hpl : ((backTo cpos (starEach [] X.env)).any fun x => x.1) = false := by rfl)
    (hsw : swapsWith (.Call (.Attribute (.Name x p) "append" apos) [a] [] cpos) none pos.line X.env = pure false := by rfl) :
    PS X (.Expr (.Call (.Attribute (.Name x p) "append" apos) [a] [] cpos) pos) (tS cls W (appS i fa)) :=
  PS_imp (ps_expr (pe_bm PySem.F.plainAttrs_list PySem.F.slot_list_append PySem.F.type_list_append mt_append (pe_var hN hv hd hcd) (pa_cons ha pa_nil hs) hb hz hl hs hpl) hsw) fun D σ H ⟨B, S, ρ, g, I, h⟩ => by
    unfold appS at h
    cases e : ρ[i]? with
    | none =>
      rw [e] at h
      cases ea : fa ρ g with
      | _ => rw [ea] at h; exact False.elim h
    | some z =>
      cases z with
      | ow b =>
        cases b with
        | lst ds =>
          obtain ⟨l, o, h1, h2, h3, h4, h5, h6⟩ := I.ow i _ e
          cases h6 with
          | @lst _ vs r =>
            refine ⟨.ref l, h1, .inl ⟨rfl, vs, .of h5⟩, B, S, ρ, g, I, ?_⟩
            cases ea : fa ρ g with
            | bad => rw [ea] at h; exact h
            | ex n g1 => rw [ea, e] at h; exact fun H' S' I' e => h _ _ _ I' e.base
            | ok d g1 =>
              rw [ea, e] at h
              simp only at h
              intro v H1 S1 I1 e1 r1
              by_cases hb : ds.length < big
              · rw [if_pos hb] at h
                refine ⟨l, vs, v, rfl, rfl, e1.keep _ _ h5 h3, big_lt (by rw [r.length]; exact hb), ?_⟩
                exact h _ _ _ (I1.mutO e h1 (.lst ((r.mono e1.base).append (.cons r1 .nil))) fun _ z => nomatch z) e1.base
              · rw [if_neg hb] at h
                exact False.elim h
        | _ =>
          rw [e] at h
          cases ea : fa ρ g with
          | _ => rw [ea] at h; exact False.elim h
      | _ =>
        rw [e] at h
        cases ea : fa ρ g with
        | _ => rw [ea] at h; exact False.elim h

/-! ### loops -/
def forD (t : Tg) (body : Sm) : List PyData → Sm
  | [], ρ, g => .nx ρ g
  | d :: ds, ρ, g => match t d ρ with
    | none => .bad
    | some ρ1 => match body ρ1 g with
      | .nx ρ2 g2 => forD t body ds ρ2 g2
      | .ct ρ2 g2 => forD t body ds ρ2 g2
      | .bk ρ2 g2 => .nx ρ2 g2
      | .rt d g2 => .rt d g2
      | .ex n ρ2 g2 => .ex n ρ2 g2
      | .bad => .bad
@[simp] def forS (fi : Ar) (t : Tg) (body : Sm) : Sm := fun ρ g => match fi ρ g with
  | .ok ds g1 => forD t body ds ρ g1
  | .ex n g1 => .ex n ρ g1
  | .bad => .bad
theorem for_core {B : Bs} {S1 H1 : Hp} {ρ : Nv} {g1 : G} {J : It} {ds : List PyData} {ts : List Nat} {t : Tg} {sb : Sm} (I1 : Good B σ H1 S1 ρ g1) (it : ItOk J S1 ds) (h : SO cls W B S1 D (forD t sb ds ρ g1)) :
    ∃ W' : Nat → Nat → L2.St → Hp → Prop, (∃ m, W' 0 m σ H1) ∧ ∀ (i m : Nat) (σ : L2.St) (H : Hp), W' i m σ H → (J.stop i H ∧ D.nx σ H) ∨ (J.go i H ∧ ∃ N : L2.St → Hp → Prop, (∀ σ' H', N σ' H' → ∃ m', m' < m ∧ W' (i + 1) m' σ' H') ∧
      ∀ x H', J.yld i H x H' → (tG ts t) x σ H' fun σ2 H2 => (tS cls W sb) { D with nx := N, ct := N, bk := D.nx } σ2 H2) := by
  refine ⟨fun i m σ' H' => i + m = ds.length ∧ ∃ S' ρ' g', Good B σ' H' S' ρ' g' ∧ Same S1 S' ∧ SO cls W B S' D (forD t sb (ds.drop i) ρ' g'), ⟨ds.length, by omega, S1, ρ, g1, I1, Same.refl _, h⟩, ?_⟩
  rintro i m σ' H' ⟨him, S', ρ', g', I', sm, h'⟩
  by_cases hi : i < ds.length
  · refine .inr ⟨it.go i H' hi (sm.trans I'.sub), fun σ'' H'' => ∃ m', m' < m ∧ (i + 1 + m' = ds.length ∧ ∃ S' ρ' g', Good B σ'' H'' S' ρ' g' ∧ Same S1 S' ∧ SO cls W B S' D (forD t sb (ds.drop (i + 1)) ρ' g')), fun σ'' H'' z => z, fun x H2 hy => ?_⟩
    obtain ⟨d, S2, hd, gr1, rd⟩ := it.yld i H' S' x H2 hi sm I'.sub hy
    obtain ⟨I2, e2⟩ := gr1.good I'
    have hdrop : ds.drop i = d :: ds.drop (i + 1) := by
      rw [List.drop_eq_getElem_cons hi]
      rw [List.getElem?_eq_getElem hi] at hd
      rw [Option.some.inj hd]
    rw [hdrop] at h'
    unfold forD at h'
    cases et : t d ρ' with
    | none => simp only [et] at h'; exact False.elim h'
    | some ρ1 =>
      simp only [et] at h'
      refine ⟨B, S2, ρ', g', d, ρ1, I2, rd, et, fun σ3 I3 _ => ⟨B, S2, ρ1, g', I3, ?_⟩⟩
      have h2 := SO_gr e2.base h'
      cases eb : sb ρ1 g' with
      | nx ρ2 g2 =>
        rw [eb] at h2
        exact fun σ4 H4 S4 I4 e4 => ⟨m - 1, by omega, by omega, S4, ρ2, g2, I4, (sm.trans e2.base).trans e4, SO_gr e4 h2⟩
      | ct ρ2 g2 =>
        rw [eb] at h2
        exact fun σ4 H4 S4 I4 e4 => ⟨m - 1, by omega, by omega, S4, ρ2, g2, I4, (sm.trans e2.base).trans e4, SO_gr e4 h2⟩
      | bk ρ2 g2 => rw [eb] at h2; exact h2
      | rt d g2 => rw [eb] at h2; exact h2
      | ex n ρ2 g2 => rw [eb] at h2; exact h2
      | bad => rw [eb] at h2; exact h2
  · have hdrop : ds.drop i = [] := List.drop_eq_nil_of_le (by omega)
    rw [hdrop] at h'
    exact .inl ⟨it.stop i H' (by omega) (sm.trans I'.sub), h' _ _ _ I' (Same.refl _)⟩
theorem psd_for {tg iter : Expr} {body : List Stmt} {ts : List Nat} {fi : Ar} {t : Tg} {sb : Sm} (hp : PassesOwn (model X.prog X.w) X.A X.env X.xe) (hc : X.calm = true) (hi : PI X tg iter (tI cls W fi)) (hg : PG X tg (tG ts t)) (hb : PSs X body (tS cls W sb)) (hs : ∀ x, foldedSetIterable iter X.env x = pure x := by intro _; rfl) :
    PS X (.For tg iter body [] pos) (tS cls W (forS fi t sb)) := PS_imp (ps_for hp hc hi hg hb hs) fun D σ H ⟨B, S, ρ, g, I, h⟩ => by
  unfold forS at h
  refine ⟨B, S, ρ, g, I, ?_⟩
  cases ei : fi ρ g with
  | bad => rw [ei] at h; exact h
  | ex n g1 => rw [ei] at h; exact fun H' S' I' e => h _ _ _ I' e.base
  | ok ds g1 =>
    rw [ei] at h
    exact fun J H1 S1 I1 e1 it => for_core I1 it (SO_gr e1.base h)
/-- for .. in script, the script in slot i -/
def tScF (K : PySem.W.Frag) (cls : Nat → Value) (W : WX) (i : Nat) (ns : List Int) (t : Tg) (sb : Sm) : TS := fun D σ H => ∃ B S ρ g, Good B σ H S ρ g ∧ ρ[i]? = some .sc ∧ SqL K B.S B.C (ns.map V.int) ∧ SO cls W B S D (forD t sb (ns.map PyData.int) ρ g)
theorem it_sq {K : PySem.W.Frag} {S : Hp} {a : Addr} {ns : List Int} (h : SqL K S a (ns.map V.int)) : ItOk (Itl K a) S (ns.map PyData.int) := by
  have sq : ∀ H, Same S H → SqL K H a (ns.map V.int) := fun H e => e.seq h
  refine ⟨fun i H hi hs => ?_, fun i H hi hs => ⟨_, sq H hs, by rw [List.length_map] at hi ⊢; exact hi⟩, fun i H S' x H' hi h1 h2 hy => ?_⟩
  · rw [List.length_map] at hi
    exact ⟨_, .int ns[i], sq H hs, by rw [List.getElem?_map, List.getElem?_eq_getElem hi]; rfl⟩
  · obtain ⟨rfl, hy⟩ := hy
    rw [List.length_map] at hi
    have e := hy _ (sq _ (h1.trans h2))
    rw [List.getElem?_map, List.getElem?_eq_getElem hi] at e
    have ex : x = .int ns[i] := (Option.some.inj e).symm
    subst ex
    exact ⟨.int ns[i], S', by rw [List.getElem?_map, List.getElem?_eq_getElem hi]; rfl, .same, .int _⟩
theorem psd_forSc (i : Nat) {x : Str} {tg : Expr} {p : Pos} {body : List Stmt} {ts : List Nat} {ns : List Int} {t : Tg} {sb : Sm} (hp : PassesOwn (model X.prog X.w) X.A X.env X.xe) (hc : X.calm = true) (hg : PG X tg (tG ts t)) (hb : PSs X body (tS cls W sb)) (hN : X.N[i]? = some x := by rfl) (hv : Vis X.env.scope x := by first | exact Or.inl rfl | exact Or.inr (Or.inl rfl) | exact Or.inr (Or.inr rfl)) (hd : (x == ("__debug__" : Str)) = false := by decide)
    (hcd : (x == ("__classdict__" : Str)) = false := by decide) (hs : ∀ v, foldedSetIterable (.Name x p) X.env v = pure v := by intro _; rfl) : PS X (.For tg (.Name x p) body [] pos) (tScF X.K cls W i ns t sb) :=
  PS_imp (ps_for hp hc (pi_list (pe_var hN hv hd hcd)) hg hb hs) fun D σ H ⟨B, S, ρ, g, I, hi, hq, h⟩ => by
    have sq := I.base.seq hq
    exact ⟨_, I.sw i hi, B.C, rfl, ⟨_, I.sub.seq sq⟩, for_core I (it_sq sq) h⟩
def whileN (c : Te) (b : Sm) : Nat → Sm
  | 0, _, _ => .bad
  | n + 1, ρ, g => match c ρ g with
    | .ok true g1 => (match b ρ g1 with
      | .nx ρ2 g2 => whileN c b n ρ2 g2
      | .ct ρ2 g2 => whileN c b n ρ2 g2
      | .bk ρ2 g2 => .nx ρ2 g2
      | .rt d g2 => .rt d g2
      | .ex k ρ2 g2 => .ex k ρ2 g2
      | .bad => .bad)
    | .ok false g1 => .nx ρ g1
    | .ex k g1 => .ex k ρ g1
    | .bad => .bad
open Classical in
noncomputable def whileS (c : Te) (b : Sm) : Sm := fun ρ g => if h : ∃ n, whileN c b n ρ g ≠ .bad then whileN c b (Classical.choose h) ρ g else .bad
theorem whileN_mono {c : Te} {b : Sm} : ∀ {n : Nat} {ρ : Nv} {g : G}, whileN c b n ρ g ≠ .bad → ∀ k, whileN c b (n + k) ρ g = whileN c b n ρ g
  | 0, ρ, g, h, k => absurd rfl h
  | n + 1, ρ, g, h, k => by
    rw [show n + 1 + k = (n + k) + 1 by omega]
    unfold whileN at h ⊢
    cases ec : c ρ g with
    | bad => rfl
    | ex m g1 => rfl
    | ok t g1 =>
      cases t with
      | false => rfl
      | true =>
        simp only [ec] at h
        simp only
        cases eb : b ρ g1 with
        | nx ρ2 g2 => simp only [eb] at h; exact whileN_mono h k
        | ct ρ2 g2 => simp only [eb] at h; exact whileN_mono h k
        | _ => rfl
theorem whileS_of {c : Te} {b : Sm} {n : Nat} {ρ : Nv} {g : G} {r : SR} (h : whileN c b n ρ g = r) (hr : r ≠ .bad) : whileS c b ρ g = r := by
  have hx : ∃ n, whileN c b n ρ g ≠ .bad := ⟨n, by rw [h]; exact hr⟩
  unfold whileS
  rw [dif_pos hx]
  have h1 := Classical.choose_spec hx
  generalize Classical.choose hx = m at h1
  rcases Nat.le_total m n with z | z
  · have q := whileN_mono h1 (n - m)
    rw [show m + (n - m) = n by omega] at q
    rw [← q, h]
  · have q := whileN_mono (n := n) (by rw [h]; exact hr) (m - n)
    rw [show n + (m - n) = m by omega] at q
    rw [q, h]
theorem psd_while {body : List Stmt} {tc : Te} {sb : Sm} (hp : PassesOwn (model X.prog X.w) X.A X.env X.xe) (hc : PT X c (tT cls W tc)) (hb : PSs X body (tS cls W sb)) : PS X (.While c body [] pos) (tS cls W (whileS tc sb)) := PS_imp (ps_while hp hc hb) fun D σ H ⟨B, S, ρ, g, I, h⟩ => by
  unfold whileS at h
  by_cases hx : ∃ n, whileN tc sb n ρ g ≠ .bad
  · rw [dif_pos hx] at h
    refine ⟨fun m σ' H' => ∃ S' ρ' g', Good B σ' H' S' ρ' g' ∧ SO cls W B S' D (whileN tc sb m ρ' g'), ⟨_, S, ρ, g, I, h⟩, ?_⟩
    rintro m σ' H' ⟨S', ρ', g', I', h'⟩
    refine ⟨B, S', ρ', g', I', ?_⟩
    cases m with
    | zero => exact False.elim h'
    | succ m =>
      unfold whileN at h'
      cases ec : tc ρ' g' with
      | bad => rw [ec] at h'; exact h'
      | ex n g1 => rw [ec] at h'; exact fun H' S' I' e => h' _ _ _ I' e.base
      | ok k g1 =>
        rw [ec] at h'
        intro H2 S2 I2 e2
        have h2 := SO_gr e2.base h'
        cases k with
        | false => exact h2 _ _ _ I2 (Same.refl _)
        | true =>
          rw [if_pos rfl]
          simp only at h2
          refine ⟨fun σ'' H'' => ∃ m', m' < m + 1 ∧ ∃ S' ρ' g', Good B σ'' H'' S' ρ' g' ∧ SO cls W B S' D (whileN tc sb m' ρ' g'), fun _ _ z => z, B, S2, ρ', g1, I2, ?_⟩
          cases eb : sb ρ' g1 with
          | nx ρ2 g2 =>
            rw [eb] at h2
            exact fun σ4 H4 S4 I4 e4 => ⟨m, by omega, S4, ρ2, g2, I4, SO_gr e4 h2⟩
          | ct ρ2 g2 =>
            rw [eb] at h2
            exact fun σ4 H4 S4 I4 e4 => ⟨m, by omega, S4, ρ2, g2, I4, SO_gr e4 h2⟩
          | bk ρ2 g2 => rw [eb] at h2; exact h2
          | rt d g2 => rw [eb] at h2; exact h2
          | ex n ρ2 g2 => rw [eb] at h2; exact h2
          | bad => rw [eb] at h2; exact h2
  · rw [dif_neg hx] at h
    exact False.elim h

/-! ### exceptions -/
/-- an own class of exceptions: n its number, x its name -/
structure ExcN (K : PySem.W.Frag) (mg : Str → Option Value) (cls : Nat → Value) (n : Nat) (x : Str) : Prop where
  ex : ∃ C : Addr, cls n = .ref C ∧ mg x = some (.ref C) ∧ PySem.W.excIn K C [.type "ValueError", .type "Exception", .type "BaseException", .type "object"] "ValueError.__new__" = true ∧ PySem.W.keepIn K (.ref C) = true ∧
    PySem.W.subIn K (.ref C) (.type "BaseException") = some true ∧ PySem.W.typeIn K (.ref C) = some (.type "type")
@[simp] def raiseS (n : Nat) : Sm := fun ρ g => .ex n ρ g
theorem psd_raise {n : Nat} {x m : Str} {j : Nat} {p p2 pos2 : Pos} (E : ExcN X.K X.mg cls n x) (hc : X.calm = true) (tk : Takes X W) (hg : Gl X x := by rfl) (hd : (x == ("__debug__" : Str)) = false := by decide) : PS X (.Raise (some (.Call (.Name x p) [.Constant (.str m) j p2] [] pos)) none pos2) (tS cls W (raiseS n)) := by
  obtain ⟨C, h1, h2, h3, h4, h5, h6⟩ := E.ex
  exact PS_imp (ps_raise hc tk (pmk_own PySem.F.excBase_ValueError h3 h2 h4 (raises_own h5 h6) hg hd)) fun D σ H ⟨B, S, ρ, g, I, h⟩ => by
    have q := h σ H S I (Same.refl _)
    rw [h1] at q
    exact q
/-- try: body / except the class n: suite; cnt classes there are -/
@[simp] def noEx : SR → SR
  | .ex _ _ _ => .bad
  | r => r
@[simp] def tryS (n cnt : Nat) (sb sh : Sm) : Sm := fun ρ g => match sb ρ g with
  | .ex m ρ1 g1 => if m = n then noEx (sh ρ1 g1) else if m < cnt then .ex m ρ1 g1 else .bad
  | r => r
theorem psd_try {n cnt : Nat} {x : Str} {np pos' : Pos} {body suite : List Stmt} {b₀ : Stmt} {sb sh : Sm} (hx : ∀ m, m < cnt → PySem.W.exmOne X.K (cls m) (cls n) = some (decide (m = n))) (hn : n < cnt) (hm : X.mg x = some (cls n)) (hs : X.stack = X.env :: X.outer) (hf : X.env.frame = some X.env.locals) (tk : Takes X W)
    (hb : ∀ (W' : WX) (pn : List (Addr × Obj)) (xe : Value → Shared → Prop), Takes (X.tr pn xe) W' → PassesOwn (model X.prog X.w) X.A X.env xe → PSs (X.tr pn xe) body (tS cls W' sb))
    (hsu : ∀ (a : Addr) (oe : Obj) (pn : List (Addr × Obj)), PSs (X.suite a ((a, oe) :: pn)) (b₀ :: suite) (tS cls W0 sh)) (hg : Gl X x := by rfl) (hd : (x == ("__debug__" : Str)) = false := by decide) :
    PS X (.Try body [.ExceptHandler (some (.Name x np)) none (b₀ :: suite) pos'] [] [] pos) (tS cls W (tryS n cnt sb sh)) :=
  PS_imp (ps_try_only (tb := fun W' => tS cls W' sb) (ts := fun _ _ _ => tS cls W0 sh) hs hf ⟨hg, hd, .inl hm⟩ tk hb fun a oe _ _ pn _ _ => hsu a oe pn) fun D σ H ⟨B, S, ρ, g, I, h⟩ => by
    unfold tryS at h
    refine ⟨B, S, ρ, g, I, ?_⟩
    cases es : sb ρ g with
    | nx ρ1 g1 => rw [es] at h; exact h
    | rt d g1 => rw [es] at h; exact h
    | bk ρ1 g1 => rw [es] at h; exact h
    | ct ρ1 g1 => rw [es] at h; exact h
    | bad => rw [es] at h; exact h
    | ex m ρ1 g1 =>
      rw [es] at h
      intro σ' H' S' I' e'
      by_cases hmn : m = n
      · subst hmn
        simp only [if_pos] at h
        refine ⟨true, by rw [hx m hn]; simp, fun _ a _ => ?_, (fun z => nomatch z)⟩
        refine ⟨B, S', ρ1, g1, I', ?_⟩
        have h2 := SO_gr e' h
        cases eh : sh ρ1 g1 with
        | nx ρ2 g2 => rw [eh] at h2; exact h2
        | rt d g2 => rw [eh] at h2; exact h2
        | bk ρ2 g2 => rw [eh] at h2; exact h2
        | ct ρ2 g2 => rw [eh] at h2; exact h2
        | bad => rw [eh] at h2; exact h2
        | ex k ρ2 g2 => rw [eh] at h2; exact False.elim h2
      · simp only [if_neg hmn] at h
        by_cases hc : m < cnt
        · rw [if_pos hc] at h
          exact ⟨false, by rw [hx m hc, decide_eq_false hmn], (fun z => nomatch z), fun _ => h σ' H' S' I' e'⟩
        · rw [if_neg hc] at h
          exact False.elim h
end

/-! ### defs -/
abbrev Fn := List PyData → G → R PyData
def FO (cls : Nat → Value) (B : Bs) (Q : VK) (E : XK) : R PyData → Prop
  | .ok d g' => ∀ v H' S', Fin B H' S' g' → Rp S' v d → Q v H'
  | .ex n g' => ∀ H' S', Fin B H' S' g' → E (cls n) none H'
  | .bad => False
/-- a def's promise: m what it computes of the data, dr whether its first argument is the draws -/
def spF (cls : Nat → Value) (ar : Nat) (dr : Bool) (m : Fn) : Sp := fun vs H Q E => vs.length = ar ∧ ∃ (A : Addr) (live : Bool) (nv : V) (S : Hp) (us : List V) (ds : List PyData) (g : G), vs = (if dr = true then .ref A :: us else us) ∧ (dr = true → live = true) ∧ Fin ⟨A, live, S, H, 0, nv⟩ H S g ∧ Rps S us ds ∧ FO cls ⟨A, live, S, H, 0, nv⟩ Q E (m ds g)
@[simp] def fnD (n : Nat) (dr : Bool) (body : Sm) : Fn := fun ds g => match body ((if dr = true then .dr :: ds.map .sh else ds.map .sh) ++ List.replicate n .no) g with
  | .nx _ g1 => .ok .none g1
  | .rt d g1 => .ok d g1
  | .ex k _ g1 => .ex k g1
  | _ => .bad
structure Kept (P : Program) (w : World) (K : PySem.W.Frag) (mg : Str → Option Value) (base : Heap) (cls : Nat → Value) (x : Str) (ps : List Str) (dr : Bool) (m : Fn) (k : Nat) : Prop where
  ex : ∃ (f : Addr) (fd : FuncData), mg x = some (.ref f) ∧ PySem.W.keepIn K (.ref f) = true ∧ L2.Binds K fd ps [] ∧ FnOk P w K mg base (L2.CX P w) k f fd ps (spF cls ps.length dr m)
section
variable {P : Program} {w : World} {K : PySem.W.Frag} {mg : Str → Option Value} {base : Heap} {cls : Nat → Value}
theorem Rps.sh {S : Hp} : ∀ {us : List V} {ds : List PyData} {i : Nat} {d : PyData}, Rps S us ds → (ds.map Sl.sh)[i]? = some (.sh d) → ∃ v, (us.map some)[i]? = some (some v) ∧ Rp S v d := fun {us ds i d} r e => by
  rw [List.getElem?_map] at e
  cases h : ds[i]? with
  | none => rw [h] at e; cases e
  | some d' =>
    rw [h] at e
    cases e
    obtain ⟨v, h1, h2⟩ := r.getD h
    exact ⟨v, by rw [List.getElem?_map, h1]; rfl, h2⟩
theorem start_good {A : Addr} {live : Bool} {nv : V} {S H : Hp} {us vs : List V} {ds : List PyData} {g : G} {dr : Bool} {N : List Str} {n : Nat} (F : Fin ⟨A, live, S, H, 0, nv⟩ H S g) (hlv : dr = true → live = true) (hv : vs = (if dr = true then .ref A :: us else us)) (r : Rps S us ds) (hn : N.length - vs.length = n) :
    Good ⟨A, live, S, H, 0, nv⟩ (L2.start N vs) H S ((if dr = true then .dr :: ds.map .sh else ds.map .sh) ++ List.replicate n .no) g := by
  have hno : ∀ (L : List Sl) (i : Nat) (z : Sl), z ≠ .no → (L ++ List.replicate n Sl.no)[i]? = some z → L[i]? = some z := fun L i z hz h => by
    by_cases hi : i < L.length
    · rw [List.getElem?_append_left hi] at h; exact h
    · rw [List.getElem?_append_right (Nat.le_of_not_lt hi), List.getElem?_replicate] at h
      split at h
      · exact absurd (Option.some.inj h).symm hz
      · cases h
  have hst : ∀ (i : Nat) (v : V), (vs.map some)[i]? = some (some v) → (L2.start N vs)[i]? = some (some v) := fun i v h => by
    unfold L2.start
    rw [List.getElem?_append_left (List.getElem?_eq_some_iff.mp h).1]
    exact h
  have hnoow : ∀ (i : Nat) (b : Ob), ((if dr = true then Sl.dr :: ds.map .sh else ds.map .sh) ++ List.replicate n Sl.no)[i]? ≠ some (.ow b) := fun i b h => by
    have h' := hno _ _ (.ow b) (fun z => nomatch z) h
    cases dr with
    | true =>
      rw [if_pos rfl] at h'
      cases i with
      | zero => cases h'
      | succ i =>
        rw [List.getElem?_cons_succ, List.getElem?_map] at h'
        cases e : ds[i]? with
        | none => rw [e] at h'; cases h'
        | some d => rw [e] at h'; cases h'
    | false =>
      rw [if_neg (by decide)] at h'
      rw [List.getElem?_map] at h'
      cases e : ds[i]? with
      | none => rw [e] at h'; cases h'
      | some d => rw [e] at h'; cases h'
  refine ⟨F, ?_, fun i d h => ?_, fun i h => ?_, fun i h => ?_, fun i b h => absurd h (hnoow i b), (fun i j b c a h _ _ _ => absurd h (hnoow i b)), fun i rows a cs h _ _ => absurd h (hnoow i _)⟩
  · unfold L2.start
    rw [List.length_append, List.length_append, List.length_map, List.length_replicate, List.length_replicate, hn, hv]
    cases dr with
    | true => rw [if_pos rfl, if_pos rfl, List.length_cons, List.length_cons, List.length_map, r.length]
    | false => rw [if_neg (by decide), if_neg (by decide), List.length_map, r.length]
  · have h' := hno _ _ (.sh d) (fun z => nomatch z) h
    cases dr with
    | true =>
      rw [if_pos rfl] at h' hv
      subst hv
      cases i with
      | zero => cases h'
      | succ i =>
        obtain ⟨v, h1, h2⟩ := r.sh (i := i) (d := d) h'
        exact ⟨v, hst _ _ h1, h2⟩
    | false =>
      rw [if_neg (by decide)] at h' hv
      subst hv
      obtain ⟨v, h1, h2⟩ := r.sh h'
      exact ⟨v, hst _ _ h1, h2⟩
  · have h' := hno _ _ .dr (fun z => nomatch z) h
    cases dr with
    | true =>
      rw [if_pos rfl] at h' hv
      subst hv
      cases i with
      | zero => exact ⟨hst _ _ rfl, hlv rfl⟩
      | succ i =>
        rw [List.getElem?_cons_succ, List.getElem?_map] at h'
        cases e : ds[i]? with
        | none => rw [e] at h'; cases h'
        | some d => rw [e] at h'; cases h'
    | false =>
      rw [if_neg (by decide)] at h'
      rw [List.getElem?_map] at h'
      cases e : ds[i]? with
      | none => rw [e] at h'; cases h'
      | some d => rw [e] at h'; cases h'
  · have h' := hno _ _ .sc (fun z => nomatch z) h
    cases dr with
    | true =>
      rw [if_pos rfl] at h'
      cases i with
      | zero => cases h'
      | succ i =>
        rw [List.getElem?_cons_succ, List.getElem?_map] at h'
        cases e : ds[i]? with
        | none => rw [e] at h'; cases h'
        | some d => rw [e] at h'; cases h'
    | false =>
      rw [if_neg (by decide)] at h'
      rw [List.getElem?_map] at h'
      cases e : ds[i]? with
      | none => rw [e] at h'; cases h'
      | some d => rw [e] at h'; cases h'
/-- THE RULE for a def -/
theorem fn_ok {x : Str} {st : Stmt} {N ps : List Str} {k : Nat} {dr : Bool} {body : Sm} (Fx : ∃ (f : Addr) (fd : FuncData), Fun K x x st f fd ∧ mg x = some (.ref f) ∧ L2.Binds K fd ps []) (S : FnScope N ps (defScope st))
    (hd : ∀ (f : Addr) (cdv : Value) (A : Around) (outer : List PySem.Env) (s : Shared) (H : Hp) (E : XK), Room k (A.deeper (envOfC x (defScope st) s.heap.objs.size f cdv)) →
      PSs (cxOf (L2.CX P w) P w K mg base N x (defScope st) f cdv A outer s H E) (defBody st) (tS cls (fun c d _ H => E c d H) body)) {n : Nat} (hn : N.length - ps.length = n := by rfl) :
    Kept P w K mg base cls x ps dr (fnD n dr body) (k + 1) := by
  obtain ⟨f, fd, F, hm, hb⟩ := Fx
  refine ⟨f, fd, hm, F.kp, hb, F.okX S (fun vs H Q E h => h.1) fun cdv A outer s H vs Q E hr h => ?_⟩
  obtain ⟨hl, A1, live, nv, S1, us, ds, g, hv, hlive, Fi, r, h⟩ := h
  refine ⟨_, hd f cdv A outer s H E hr, ⟨A1, live, S1, H, 0, nv⟩, S1, (if dr = true then .dr :: ds.map .sh else ds.map .sh) ++ List.replicate n .no, g, start_good Fi hlive hv r (by rw [hl]; exact hn), ?_⟩
  unfold fnD at h
  cases eb : body ((if dr = true then .dr :: ds.map .sh else ds.map .sh) ++ List.replicate n .no) g with
  | nx ρ1 g1 => rw [eb] at h; exact fun σ' H' S' I' _ => h .non H' S' I'.toFin .non
  | rt d g1 => rw [eb] at h; exact fun v H' S' F' r' => h v H' S' F' r'
  | ex n ρ1 g1 => rw [eb] at h; exact fun σ' H' S' I' _ => h H' S' I'.toFin
  | bk ρ1 g1 => rw [eb] at h; exact False.elim h
  | ct ρ1 g1 => rw [eb] at h; exact False.elim h
  | bad => rw [eb] at h; exact h
end
section
variable {X : Cx} {cls : Nat → Value} {W : WX} {pos p : Pos} {e : Expr} {es : List Expr} {fa : Ar} {x : Str} {ps : List Str} {m : Fn} {j k : Nat}
theorem Good.after {B : Bs} {σ : L2.St} {H S H' S' : Hp} {ρ : Nv} {g g' : G} (I : Good B σ H S ρ g) (F : Fin ⟨B.A, B.live, S, H, 0, B.N⟩ H' S' g') : Good B σ H' S' ρ g' ∧ Gr B H S H' S' := by
  have e : Gr B H S H' S' := ⟨F.keep, F.base, F.new, F.there⟩
  refine ⟨I.grow e F.sub ?_, e⟩
  have d := F.dr
  cases g' with
  | none => exact d
  | some q => exact d
theorem Good.fin0 {B : Bs} {σ : L2.St} {H S : Hp} {ρ : Nv} {g : G} (I : Good B σ H S ρ g) : Fin ⟨B.A, B.live, S, H, 0, B.N⟩ H S g := by
  refine ⟨I.sub, fun _ _ h _ => h, Same.refl _, fun _ h => .inl h, fun _ h => h, I.no, ?_⟩
  have d := I.dr
  cases g with
  | none => exact d
  | some q => exact d
@[simp] def callD (ar : Nat) (m : Fn) (fa : Ar) : Ex := fun ρ g => (fa ρ g).bind fun ds g1 => if ds.length = ar then m ds g1 else .bad
theorem pd_call (F : Kept X.prog X.w X.K X.mg X.base cls x ps false m j) (hr : Room k X.A) (hjk : j ≤ k) (tk : Takes X W) (ha : PA X (e :: es) (tA cls W fa)) (hg : Gl X x := by rfl) (hdb : (x == ("__debug__" : Str)) = false := by decide)
    (he : starEach (e :: es) X.env = (false, eval e X.env) :: starEach es X.env := by rfl) (hpl : (backTo pos (starEach es X.env)).any (·.1) = false := by rfl) {ar : Nat} (har : ps.length = ar := by rfl) : PE X (.Call (.Name x p) (e :: es) [] pos) (tE cls W (callD ar m fa)) := by
  subst har
  obtain ⟨f, fd, hm, hk, hb, F⟩ := F.ex
  exact PE_imp (pe_callS F (hr.mono hjk) hg hm hk hb (fun σ => passAt tk σ) ha hdb he hpl) fun σ H Q ⟨B, S, ρ, g, I, h⟩ => by
    unfold callD at h
    refine ⟨B, S, ρ, g, I, ?_⟩
    cases ea : fa ρ g with
    | bad => rw [ea] at h; exact h
    | ex n g1 => rw [ea] at h; exact h
    | ok ds g1 =>
      rw [ea] at h
      intro vs H1 S1 I1 e1 r1
      have h' := EO_gr e1 h
      simp only [R.bind_ok] at h'
      by_cases hl : ds.length = ps.length
      · rw [if_pos hl] at h'
        refine ⟨by rw [r1.length]; exact hl, B.A, B.live, B.N, S1, vs, ds, g1, rfl, (fun z => nomatch z), I1.fin0, r1, ?_⟩
        cases em : m ds g1 with
        | ok d g2 =>
          rw [em] at h'
          intro v H2 S2 F2 r2
          obtain ⟨I2, e2⟩ := I1.after F2
          exact h' v H2 S2 I2 e2 r2
        | ex n g2 =>
          rw [em] at h'
          intro H2 S2 F2
          obtain ⟨I2, e2⟩ := I1.after F2
          exact h' H2 S2 I2 e2
        | bad => rw [em] at h'; exact h'
      · rw [if_neg hl] at h'
        exact False.elim h'
/-- f(draws, ..): the draws stand in slot i -/
@[simp] def callG (ar i : Nat) (m : Fn) (fa : Ar) : Ex := fun ρ g => match ρ[i]? with
  | some .dr => (fa ρ g).bind fun ds g1 => if ds.length + 1 = ar then m ds g1 else .bad
  | _ => .bad
theorem pd_callG (i : Nat) {y : Str} {py : Pos} (F : Kept X.prog X.w X.K X.mg X.base cls x ps true m j) (hr : Room k X.A) (hjk : j ≤ k) (tk : Takes X W) (ha : PA X es (tA cls W fa)) (hN : X.N[i]? = some y := by rfl) (hv : Vis X.env.scope y := by first | exact Or.inl rfl | exact Or.inr (Or.inl rfl) | exact Or.inr (Or.inr rfl)) (hd : (y == ("__debug__" : Str)) = false := by decide)
    (hcd : (y == ("__classdict__" : Str)) = false := by decide) (hg : Gl X x := by rfl) (hdb : (x == ("__debug__" : Str)) = false := by decide)
    (he : starEach (.Name y py :: es) X.env = (false, eval (.Name y py) X.env) :: starEach es X.env := by rfl) (hpl : (backTo pos (starEach es X.env)).any (·.1) = false := by rfl) {ar : Nat} (har : ps.length = ar := by rfl) : PE X (.Call (.Name x p) (.Name y py :: es) [] pos) (tE cls W (callG ar i m fa)) := by
  subst har
  obtain ⟨f, fd, hm, hk, hb, F⟩ := F.ex
  exact PE_imp (pe_callS F (hr.mono hjk) hg hm hk hb (fun σ => passAt tk σ) (pa_cons (pe_var hN hv hd hcd) ha he) hdb he hpl) fun σ H Q ⟨B, S, ρ, g, I, h⟩ => by
    unfold callG at h
    cases ei : ρ[i]? with
    | none => rw [ei] at h; exact False.elim h
    | some z =>
      cases z with
      | dr =>
        rw [ei] at h
        refine ⟨_, (I.dw i ei).1, B, S, ρ, g, I, ?_⟩
        simp only at h
        cases ea : fa ρ g with
        | bad => rw [ea] at h; exact h
        | ex n g1 => rw [ea] at h; exact h
        | ok ds g1 =>
          rw [ea] at h
          intro vs H1 S1 I1 e1 r1
          have h' := EO_gr e1 h
          simp only [R.bind_ok] at h'
          by_cases hl : ds.length + 1 = ps.length
          · rw [if_pos hl] at h'
            have hlive : B.live = true := (I.dw i ei).2
            refine ⟨by rw [List.length_cons, r1.length]; exact hl, B.A, B.live, B.N, S1, vs, ds, g1, rfl, fun _ => hlive, I1.fin0, r1, ?_⟩
            cases em : m ds g1 with
            | ok d g2 =>
              rw [em] at h'
              intro v H2 S2 F2 r2
              obtain ⟨I2, e2⟩ := I1.after F2
              exact h' v H2 S2 I2 e2 r2
            | ex n g2 =>
              rw [em] at h'
              intro H2 S2 F2
              obtain ⟨I2, e2⟩ := I1.after F2
              exact h' H2 S2 I2 e2
            | bad => rw [em] at h'; exact h'
          · rw [if_neg hl] at h'
            exact False.elim h'
      | _ => rw [ei] at h; exact False.elim h
end
end DL

set_option Elab.async false
set_option linter.all false
set_option maxRecDepth 100000
set_option maxHeartbeats 400000
/-! ### t[::-1] of a tuple -/
namespace DLT
open PySem PyProof.Rows HT
open PySem.SeqAt
open PySem.AutoSeq1 (wpAny_loadPart')
open PySem.MeetsSeq PySem.MeetsSeq2 PySem.MeetsSeq3
section
variable {prog : Program} {w : World} {A : Around} {E : Value → Shared → Prop} {s : Shared}
theorem applied_rev {sl : Addr} {vl vu vs : Value} {n : Nat} {Q : Int × Int × Nat → Shared → Prop} (hs : s.heap.IsSliceOf sl vl vu vs) (pl : IsPart vl none) (pu : IsPart vu none) (ps : IsPart vs (some (-1)))
    (h : Q ((n : Int) - 1, -1, n) s) : wpAny (model prog w) A (Builtin.Slice.sliceApplied (.ref sl) (pure (n : Int))) Q E s := by
  obtain ⟨os, hos, hcs, hds⟩ := id hs
  unfold Builtin.Slice.sliceApplied Builtin.Slice.sliceFields
  refine wpAny_bind (wpAny_bind (wpAny_field hos hds (x := vl) rfl (wpAny_bind (wpAny_field hos hds (x := vu) rfl (wpAny_bind (wpAny_field hos hds (x := vs) rfl (wpAny_pure ?_)))))))
  refine wpAny_bind (slicePart_ ps ?_)
  show wpAny _ _ (if ((-1 : Int) == 0) = true then _ else _) _ _ s
  rw [if_neg (by decide)]
  refine wpAny_bind (slicePart_ pl (wpAny_bind (slicePart_ pu (wpAny_bind (wpAny_pure ?_)))))
  show wpAny _ _ (pure ((n : Int) - 1, (-1 : Int), Builtin.Slice.slicePlaces ((n : Int) - 1) (-1) (-1))) _ _ s
  have e : Builtin.Slice.slicePlaces ((n : Int) - 1) (-1) (-1) = n := by
    unfold Builtin.Slice.slicePlaces
    have h1 : ¬ ((-1 : Int) > 0) := by decide
    rw [if_neg h1]
    by_cases hn : (n : Int) - 1 > -1
    · rw [if_pos hn, show (-(-1 : Int)) = 1 by decide, Int.ediv_one]
      omega
    · rw [if_neg hn]
      omega
  rw [e]
  exact wpAny_pure h
theorem pick_rev (xs : Array Value) : ((List.range xs.size).filterMap fun (k : Nat) => xs[(((xs.size : Int) - 1) + (k : Int) * -1).toNat]?).toArray = xs.toList.reverse.toArray := by
  have e : (fun (k : Nat) => xs[(((xs.size : Int) - 1) + (k : Int) * -1).toNat]?) = fun k => xs[xs.size - 1 - k]? := by
    funext k
    have : (((xs.size : Int) - 1) + (k : Int) * -1).toNat = xs.size - 1 - k := by omega
    rw [this]
  rw [e]
  have q := PySem.W.krv_range xs.size
  have r : (List.range xs.size).filterMap (fun k => xs[xs.size - 1 - k]?) = ((List.range xs.size).map (fun k => xs.size - 1 - k)).filterMap (xs[·]?) := by
    rw [List.filterMap_map]
    rfl
  rw [r, q, List.filterMap_reverse, PySem.W.krv_all]
theorem getItem_tuple_rev {t sl : Addr} {items : Array Value} {vl vu vs : Value} {Q : Value → Shared → Prop} (ht : IsTup s.heap t items) (hs : s.heap.IsSliceOf sl vl vu vs) (pl : IsPart vl none) (pu : IsPart vu none) (ps : IsPart vs (some (-1)))
    (h : Q (.ref s.heap.objs.size) { s with heap := s.heap.push { cls := .type "tuple", data := .seq items.toList.reverse.toArray } })
    (hsz : items.size ≤ sizeLine) : wpAny (model prog w) A (getItem (.ref t) (.ref sl)) Q E s := by
  have htake : sizeOk (.seq items.toList.reverse.toArray) := by
    show items.toList.reverse.toArray.size ≤ sizeLine
    rw [List.size_toArray, List.length_reverse, Array.length_toList]
    exact hsz
  obtain ⟨os, hos, hcs, hds⟩ := id hs
  have hTs : s.TypeIs (.ref sl) "slice" := ⟨os, hos, hcs⟩
  unfold getItem
  try with_reducible refine wpAny_holding ?_
  first | refine wpAny_bind (wpAny_pure ?_) | skip
  refine wpAny_bind (wpAny_sequenceKey ht.typeIs (by decide) ?_)
  refine wpAny_bind (wpAny_callSpecial?_slot (name := Str.ofString "__getitem__") ht.typeIs PyProof.Rows.slot_tuple_getitem
    (wpAny_call_entry PyProof.Rows.slot_tuple_getitem ht.typeIs entry_tuple_getitem ?_ (args_tuple_getitem _ _)))
  show wpAny _ _ (Builtin.Tuple.tupleItemsOf (.ref t) >>= _) _ _ s
  refine wpAny_bind (tupleItemsOf_ ht ?_)
  refine wpAny_bind (wpAny_typeOf hTs ?_)
  rw [if_pos (by decide)]
  refine wpAny_bind (applied_rev hs pl pu ps ?_)
  have hno : ¬ ((((items.size : Int) - 1) == 0 && (-1 : Int) == 1 && items.size == items.size) = true) := by simp
  show wpAny _ _ (if (((items.size : Int) - 1) == 0 && (-1 : Int) == 1 && items.size == items.size) = true then _ else _) _ _ s
  rw [if_neg hno, pick_rev]
  first
    | exact wpAny_bind (m := Builtin.Tuple.tupleExact _) (wpAny_newObj_type (wpAny_pure ⟨_, rfl, wpAny_pure h⟩) htake)
    | exact wpAny_bind (m := Builtin.Tuple.tupleExact _) (wpAny_newObj_type (wpAny_bind (wpAny_pure (wpAny_pure ⟨_, rfl, wpAny_pure h⟩))) htake)
    | exact wpAny_bind (wpAny_bind (m := Builtin.Tuple.tupleExact _) (wpAny_newObj_type (wpAny_pure (wpAny_pure ⟨_, rfl, wpAny_pure h⟩)) htake))
    | exact wpAny_bind (wpAny_bind (m := Builtin.Tuple.tupleExact _) (wpAny_newObj_type (wpAny_pure ⟨_, rfl, wpAny_pure h⟩) htake))
end
end DLT
namespace DL
open PySem PySem.Spec PyProof.Rows L2
section
variable {X : Cx} {cls : Nat → Value} {W : WX} {pos : Pos} {a b c : Expr} {fa fb fc : Ex} {k : Nat}
/-! ### x[::-1] -/
def tRevT (K : PySem.W.Frag) (te : TE) : TE := fun σ H Q => te σ H fun x H1 => ∃ a xs, x = .ref a ∧ SqT K H1 a xs ∧ ∀ p, H1 p = none → Q (.ref p) (upd H1 p (.tup xs.reverse))
theorem pe_revT {e : Expr} {te : TE} {k : Nat} {p1 p2 p3 pos : Pos} (he : PE X e te) : PE X (.Subscript e (.Slice none none (some (.UnaryOp .USub (.Constant (.int 1) k p1) p2)) p3) pos) (tRevT X.K te) := by
  refine ⟨fun pins s σ H Q I h => ?_⟩
  refine Subscript_ (thn (he.run pins s σ H _ I h) fun v s1 ⟨x, H1, I1, r1, q1⟩ => ?_)
  obtain ⟨a, xs, ex, hx, q⟩ := q1
  subst ex
  cases r1
  have hst : PO X (some (.UnaryOp .USub (.Constant (.int 1) k p1) p2)) (tPart (tUn (rU fun i => .int (-i)) (tC (.int 1)))) := po_some (pe_un un_neg pe_int)
  refine wpAny_Slice (thn (po_none.run pins s1 σ H1 (fun o H2 => o = none ∧ H2 = H1) I1 ⟨rfl, rfl⟩) fun vl s2 ⟨l, H2, I2, pl, el, e2⟩ => ?_)
  subst el e2
  refine thn (po_none.run pins s2 σ H2 (fun o H3 => o = none ∧ H3 = H2) I2 ⟨rfl, rfl⟩) fun vu s3 ⟨u, H3, I3, pu, eu, e3⟩ => ?_
  subst eu e3
  refine thn (hst.run pins s3 σ H3 (fun o H4 => o = some (-1) ∧ H4 = H3) I3 ⟨1, rfl, -1, rfl, rfl, rfl⟩) fun vs s4 ⟨o, H4, I4, ps, eo, e4⟩ => ?_
  subst eo e4
  have I5 : Inv X pins σ H4 { s4 with heap := s4.heap.push { cls := .type "slice", data := .fields #[vl, vu, vs] } } := I4.kept (t' := s4.toks) fun b ob q => Heap.get?_push_of_some _ q
  obtain ⟨its, r, ht, hz⟩ := I5.tuple hx
  have hlen := r.length
  show wpAny (model X.prog X.w) X.A (subscriptTail e (.Slice none none (some (.UnaryOp .USub (.Constant (.int 1) k p1) p2)) p3) (.ref a) (.ref s4.heap.objs.size)) (EP X pins σ Q) X.xe { s4 with heap := s4.heap.push { cls := .type "slice", data := .fields #[vl, vu, vs] } }
  refine tail_any (ops := [.ref a, .ref s4.heap.objs.size]) ht.typeIs (PyProof.Rows.slot_tuple_getitem.lookup) ?_ (by with_unfolding_all rfl)
  refine DLT.getItem_tuple_rev ht (Heap.IsSliceOf.new _ vl vu vs) pl pu ps ?_ (by rw [List.size_toArray]; omega)
  refine ⟨.ref _, _, I5.laid (t' := s4.toks) (o := .tup xs.reverse) (fun b ob q => Heap.get?_push_of_some _ q) (Nat.le_refl _) ?_, rfl, q _ (I5.hok.fresh (Nat.le_refl _))⟩
  exact ⟨by rw [List.length_reverse]; exact hz, _, r.reverse, ⟨_, Heap.get?_push_size _ rfl, rfl, _, rfl⟩⟩
@[simp] def revD : PyData → Option PyData
  | .list ds => some (.list ds.reverse)
  | .tuple ds => some (.tuple ds.reverse)
  | _ => none
theorem pd_rev {e : Expr} {k : Nat} {p1 p2 p3 pos : Pos} (he : PE X e (tE cls W fa)) : PE X (.Subscript e (.Slice none none (some (.UnaryOp .USub (.Constant (.int 1) k p1) p2)) p3) pos) (tE cls W (unD revD fa)) := by
  refine ⟨fun pins s σ H Q I0 h => ?_⟩
  obtain ⟨B, S, ρ, g, I, h⟩ := h
  unfold unD at h
  cases ea : fa ρ g with
  | bad => rw [ea] at h; exact False.elim h
  | ex n g1 =>
    rw [ea] at h
    refine (pe_revL he).run pins s σ H Q I0 ⟨B, S, ρ, g, I, ?_⟩
    rw [ea]
    exact h
  | ok x g1 =>
    rw [ea] at h
    simp only [R.bind_ok] at h
    cases x with
    | list ds =>
      refine (pe_revL he).run pins s σ H Q I0 ⟨B, S, ρ, g, I, ?_⟩
      rw [ea]
      intro v H1 S1 I1 e1 r1
      cases r1 with
      | @lst p xs ds hx qx =>
        refine ⟨p, xs, rfl, .of (I1.sub _ _ hx), fun q hq => ?_⟩
        obtain ⟨I2, e2⟩ := I1.alloc (o := .lst xs.reverse) hq
        exact h _ _ _ I2 (e1.trans e2) (.lst upd_same (qx.reverse.mono e2.base))
    | tuple ds =>
      refine (pe_revT he).run pins s σ H Q I0 ⟨B, S, ρ, g, I, ?_⟩
      rw [ea]
      intro v H1 S1 I1 e1 r1
      cases r1 with
      | @tup p xs ds hx qx =>
        refine ⟨p, xs, rfl, .of (I1.sub _ _ hx), fun q hq => ?_⟩
        obtain ⟨I2, e2⟩ := I1.alloc (o := .tup xs.reverse) hq
        exact h _ _ _ I2 (e1.trans e2) (.tup upd_same (qx.reverse.mono e2.base))
    | _ => exact False.elim h
/-! ### the draws' object -/
/-- draws[0], draws[1]: the draws in slot i -/
@[simp] def dr0 (i : Nat) : Ex := fun ρ g => match ρ[i]?, g with
  | some .dr, some (ns, _) => .ok (.list (ns.map PyData.int)) g
  | _, _ => .bad
@[simp] def dr1 (i : Nat) : Ex := fun ρ g => match ρ[i]?, g with
  | some .dr, some (_, j) => .ok (.int j) g
  | _, _ => .bad
variable {x : Str} {p p2 : Pos} {j : Nat}
theorem pd_dr0 (i : Nat) (hN : X.N[i]? = some x := by rfl) (hv : Vis X.env.scope x := by first | exact Or.inl rfl | exact Or.inr (Or.inl rfl) | exact Or.inr (Or.inr rfl)) (hd : (x == ("__debug__" : Str)) = false := by decide) (hcd : (x == ("__classdict__" : Str)) = false := by decide) :
    PE X (.Subscript (.Name x p) (.Constant (.int 0) j p2) pos) (tE cls W (dr0 i)) := PE_imp (pe_ix ix_list (pe_var hN hv hd hcd) pe_int (fun _ _ => rfl)) fun σ H Q ⟨B, S, ρ, g, I, h⟩ => by
  unfold dr0 at h
  split at h
  · rename_i ns k ei
    obtain ⟨_, h1, h2⟩ := (show DrAt B H S (some (ns, k)) from I.dr)
    exact ⟨_, (I.dw i ei).1, B.A, _, 0, B.N, rfl, rfl, .of h1, rfl, h B.N H S I .refl h2⟩
  · exact False.elim h
theorem pd_dr1 (i : Nat) (hN : X.N[i]? = some x := by rfl) (hv : Vis X.env.scope x := by first | exact Or.inl rfl | exact Or.inr (Or.inl rfl) | exact Or.inr (Or.inr rfl)) (hd : (x == ("__debug__" : Str)) = false := by decide) (hcd : (x == ("__classdict__" : Str)) = false := by decide) :
    PE X (.Subscript (.Name x p) (.Constant (.int 1) j p2) pos) (tE cls W (dr1 i)) := PE_imp (pe_ix ix_list (pe_var hN hv hd hcd) pe_int (fun _ _ => rfl)) fun σ H Q ⟨B, S, ρ, g, I, h⟩ => by
  unfold dr1 at h
  split at h
  · rename_i ns k ei
    obtain ⟨_, h1, h2⟩ := (show DrAt B H S (some (ns, k)) from I.dr)
    exact ⟨_, (I.dw i ei).1, B.A, _, 1, .int k, rfl, rfl, .of h1, rfl, h _ H S I .refl (.int k)⟩
  · exact False.elim h
/-- draws[1] = e -/
def drSetS (i : Nat) (f : Ex) : Sm := stE f fun d ρ g => match ρ[i]?, g, d with
  | some .dr, some (ns, _), .int j => .nx ρ (some (ns, j))
  | _, _, _ => .bad
theorem Good.setDr {B : Bs} {σ : L2.St} {H S : Hp} {ρ : Nv} {ns : List Int} {k j : Int} (I : Good B σ H S ρ (some (ns, k))) (h1 : H B.A = some (.lst [B.N, .int k])) (h2 : Rp S B.N (.list (ns.map PyData.int))) : Good B σ (upd H B.A (.lst [B.N, .int j])) S ρ (some (ns, j)) := by
  obtain ⟨hl, _⟩ := (show DrAt B H S (some (ns, k)) from I.dr)
  have no := I.no hl
  refine ⟨⟨fun c o q => ?_, fun c o q n => ?_, I.base, I.new, fun c q => ?_, I.no, ⟨hl, upd_same, h2⟩⟩, I.len, I.sh, I.dw, I.sw, fun i b h => ?_, I.ap, I.mxMove (Same.refl _) (fun i b h => ⟨⟨b, h⟩, rfl⟩) (fun i rows h => h) (fun i rows a h h' => ?_) fun i rows a cs _ h h' h2' c hc => ?_⟩
  · rw [upd_ne (ne_of_none q no)]; exact I.sub _ _ q
  · rw [upd_ne (n hl)]; exact I.keep c o q n
  · by_cases hc : c = B.A
    · subst hc; rw [upd_same]; simp
    · rw [upd_ne hc]; exact I.there c q
  · obtain ⟨a, o, q1, q2, q3, q4, q5, q6⟩ := I.ow i b h
    exact ⟨a, o, q1, q2, q3, q4, by rw [upd_ne (q3 hl)]; exact q5, q6⟩
  · obtain ⟨a0, o, q1, q2, q3, _⟩ := I.ow i _ h
    have e := addr_of h' q1
    subst e
    exact upd_ne (q3 hl)
  · have R := (I.mx i rows a cs h h' h2').1.row (I.rowsAt h h' h2') hc
    exact ⟨upd_ne (R.2.1 hl), R.1⟩
theorem psd_drSet (i : Nat) {pos' : Pos} (ha : PE X a (tE cls W fa)) (hN : X.N[i]? = some x := by rfl) (hv : Vis X.env.scope x := by first | exact Or.inl rfl | exact Or.inr (Or.inl rfl) | exact Or.inr (Or.inr rfl)) (hd : (x == ("__debug__" : Str)) = false := by decide) (hcd : (x == ("__classdict__" : Str)) = false := by decide)
    (h0 : ∀ v, assign (.Subscript (.Name x p) (.Constant (.int 1) j p2) pos') X.env v = (do
      let ov ← holding [v] (eval (.Name x p) X.env)
      let iv ← holding [v, ov] (eval (.Constant (.int 1) j p2) X.env)
      standAt pos'
      holding [v, ov, iv] (setItem ov iv v)
      release [v, ov, iv] []) := by intro _; rfl)
    (hs : swapsWithSole [.Subscript (.Name x p) (.Constant (.int 1) j p2) pos'] a pos.line X.env = pure false := by rfl) (hw : swappedStores [.Subscript (.Name x p) (.Constant (.int 1) j p2) pos'] a X.env = pure none := by rfl)
    (h1 : (assignEach [.Subscript (.Name x p) (.Constant (.int 1) j p2) pos'] X.env).map (·.2) = [assign (.Subscript (.Name x p) (.Constant (.int 1) j p2) pos') X.env] := by rfl) :
    PS X (.Assign [.Subscript (.Name x p) (.Constant (.int 1) j p2) pos'] a pos) (tS cls W (drSetS i fa)) :=
  PS_imp (ps_asg ha (pg_sub (pe_var hN hv hd hcd) pe_int set_list h0) hs hw h1) fun D σ H h => st_of h fun B S ρ g d v H1 I r q => by
    split at q
    · rename_i ns k m ei
      cases r with
      | int m =>
        obtain ⟨hl, e1, e2⟩ := (show DrAt B H1 S (some (ns, k)) from I.dr)
        exact ⟨_, (I.dw i ei).1, B.A, _, 1, 1, rfl, rfl, e1, rfl, q _ _ _ (I.setDr e1 e2) (Same.refl _)⟩
    · exact False.elim q
/-! ### more -/
theorem psd_aug_add (i : Nat) {x : Str} {pos' : Pos} (hN : X.N.Nodup) (ha : PE X a (tE cls W fa)) (hi : X.N[i]? = some x := by rfl) (hx : Loc X.env.scope x := by first | exact Or.inl rfl | exact Or.inr rfl)
    (hf : X.fn x = true ∨ X.env.scope.names.lookup x = some .local := by first | exact .inl rfl | exact .inr rfl | assumption) : PS X (.AugAssign (.Name x pos') .Add a pos) (tS cls W (setS i (opD (fun x y => match x, y with | .int i, .int j => some (.int (i + j)) | _, _ => none) (varD i) fa))) :=
  PS_imp (ps_aug hN hi hx ha ip_add hf) fun D σ H ⟨B, S, ρ, g, I, h⟩ => by
    unfold setS stE opD varD at h
    cases e : ρ[i]? with
    | none => simp only [e, R.bind_bad] at h; exact False.elim h
    | some z =>
      cases z with
      | sh d =>
        simp only [e, R.bind_ok] at h
        obtain ⟨v, h1, h2⟩ := I.sh i d e
        refine ⟨v, h1, B, S, ρ, g, I, ?_⟩
        cases ea : fa ρ g with
        | bad => rw [ea] at h; exact h
        | ex n g1 => rw [ea] at h; exact fun H' S' I' e => h _ _ _ I' e.base
        | ok y g1 =>
          rw [ea] at h
          simp only [R.bind_ok] at h
          intro u H1 S1 I1 e1 r1
          cases h2 with
          | int m =>
            cases r1 with
            | int n => exact ⟨m, n, rfl, rfl, h _ _ _ (I1.setSh i (.int _)) e1.base⟩
            | _ => exact False.elim h
          | _ => exact False.elim h
      | _ => simp only [e, R.bind_bad] at h; exact False.elim h
/-- a body that never ends well: for what is never come to -/
theorem pssd_bad {sts : List Stmt} : PSs X sts (tS cls W fun _ _ => .bad) := PSs_imp pss_never fun D σ H ⟨B, S, ρ, g, I, h⟩ => h
end
end DL

set_option Elab.async false
set_option linter.all false
set_option maxRecDepth 100000
set_option maxHeartbeats 400000
namespace DL
open PySem PySem.Spec PyProof.Rows L2
section
variable {P : Program} {w : World} {K : PySem.W.Frag} {mg : Str → Option Value} {base : Heap} {cls : Nat → Value}
theorem kept_bad {x : Str} {st : Stmt} {ps : List Str} {k : Nat} {dr : Bool} (Fx : ∃ (f : Addr) (fd : FuncData), Fun K x x st f fd ∧ mg x = some (.ref f) ∧ L2.Binds K fd ps []) : Kept P w K mg base cls x ps dr (fun _ _ => .bad) k := by
  obtain ⟨f, fd, F, hm, hb⟩ := Fx
  refine ⟨f, fd, hm, F.kp, hb, ⟨fun vs H Q E h => h.1, fun A outer s H args us vs Q E hr he hb hv hs => ?_⟩⟩
  obtain ⟨_, _, _, _, _, _, _, _, _, _, _, _, h⟩ := hs
  exact False.elim h
theorem Kept.mono {x : Str} {ps : List Str} {dr : Bool} {m : Fn} {j k : Nat} (F : Kept P w K mg base cls x ps dr m j) (h : j ≤ k) : Kept P w K mg base cls x ps dr m k := by
  obtain ⟨f, fd, h1, h2, h3, h4⟩ := F.ex
  exact ⟨f, fd, h1, h2, h3, h4.mono h⟩
/-! ### the script's numbers -/
def Small (ms : List Int) : Prop := ms.length ≤ 4000 ∧ ∀ m ∈ ms, 0 ≤ m ∧ m < 1000000
def spNum (K : PySem.W.Frag) : Sp := fun vs H Q _ => vs.length = 1 ∧ ∃ (a : Addr) (ns : List Int), vs = [.ref a] ∧ SqL K H a (ns.map V.int) ∧ ns.length ≤ 63 ∧ Only H ∧
  ∀ (p : Addr) (H' : Hp) (ms : List Int), Same H H' → H p = none → H' p = some (.lst (ms.map V.int)) → Small ms → Q (.ref p) H'
/-- what stands locked -/
def locked (H : Hp) : Hp := fun b => match H b with
  | some (.frz o u) => some (.frz o u)
  | _ => none
theorem locked_some {H : Hp} {b : Addr} {o : HO} (h : locked H b = some o) : H b = some o ∧ ∃ o' u, o = .frz o' u := by
  unfold locked at h
  split at h
  · rename_i o' u e
    cases h
    exact ⟨e, _, _, rfl⟩
  · cases h
theorem sq_locked {H : Hp} {a : Addr} {xs : List V} (ho : Only H) (h : SqL K H a xs) : SqL K (locked H) a xs := by
  rcases h with (h | ⟨o, h⟩) | h
  · rcases ho a with z | ⟨o, ys, z⟩
    · rw [z] at h; cases h
    · rw [z] at h; cases h
  · refine .inl (.inr ⟨o, ?_⟩)
    unfold locked
    rw [h]
  · exact .inr h
theorem num_start {H : Hp} {a : Addr} {N : List Str} {n : Nat} (hn : N.length - 1 = n) : Good ⟨0, false, locked H, H, a, .non⟩ (L2.start N [.ref a]) H (locked H) (.sc :: List.replicate n .no) none := by
  have rep : ∀ (i : Nat) (z : Sl), z ≠ .no → (List.replicate n Sl.no)[i]? ≠ some z := fun i z hz h => by
    rw [List.getElem?_replicate] at h
    split at h
    · exact hz (Option.some.inj h).symm
    · cases h
  refine ⟨⟨fun b o h => (locked_some h).1, fun _ _ h _ => h, Same.refl _, fun _ h => .inl h, fun _ h => h, (fun z => nomatch z), rfl⟩, ?_, fun i d h => ?_, fun i h => ?_, fun i h => ?_, fun i b h => ?_, fun i j b c x h _ _ _ => ?_, fun i rows x cs h _ _ => ?_⟩
  · unfold L2.start
    rw [List.length_append, List.length_replicate]
    show 1 + (N.length - 1) = (List.replicate n Sl.no).length + 1
    rw [List.length_replicate]
    omega
  · cases i with
    | zero => cases h
    | succ i => exact absurd h (rep i _ (fun z => nomatch z))
  · cases i with
    | zero => cases h
    | succ i => exact absurd h (rep i _ (fun z => nomatch z))
  · cases i with
    | zero => rfl
    | succ i => exact absurd h (rep i _ (fun z => nomatch z))
  · cases i with
    | zero => cases h
    | succ i => exact absurd h (rep i _ (fun z => nomatch z))
  · cases i with
    | zero => cases h
    | succ i => exact absurd h (rep i _ (fun z => nomatch z))
  · cases i with
    | zero => cases h
    | succ i => exact absurd h (rep i _ (fun z => nomatch z))
/-- numbers = [] / for .. in script: .. / return numbers -/
theorem num_ok {st : Stmt} {N : List Str} {k : Nat} {t : Tg} {sb : Sm} (Fx : ∃ (f : Addr) (fd : FuncData), Fun K "_law_numbers" "_law_numbers" st f fd ∧ mg "_law_numbers" = some (.ref f) ∧ L2.Binds K fd ["script"] []) (S : FnScope N ["script"] (defScope st)) {n : Nat}
    (hd : ∀ (f : Addr) (cdv : Value) (A : Around) (outer : List PySem.Env) (s : Shared) (H : Hp) (E : XK) (ns : List Int), Room k (A.deeper (envOfC "_law_numbers" (defScope st) s.heap.objs.size f cdv)) →
      PSs (cxOf (L2.CX P w) P w K mg base N "_law_numbers" (defScope st) f cdv A outer s H E) (defBody st) (tSeq (tS cls (fun c d _ H => E c d H) (setOS 1 (lstO nilD))) (tSeq (tScF K cls (fun c d _ H => E c d H) 0 ns t sb) (tS cls (fun c d _ H => E c d H) (shutS 1 (retS (varD 1)))))))
    (hm : ∀ ns : List Int, ns.length ≤ 63 → ∃ (ms : List Int) (ρ' : Nv), Small ms ∧ forD t sb (ns.map PyData.int) (.sc :: .ow (.lst []) :: List.replicate (n - 1) .no) none = .nx ρ' none ∧ ρ'[1]? = some (.ow (.lst (ms.map PyData.int)))) (hn : N.length - 1 = n := by rfl) (h1 : 1 ≤ n := by decide) :
    ∃ (f : Addr) (fd : FuncData), mg "_law_numbers" = some (.ref f) ∧ PySem.W.keepIn K (.ref f) = true ∧ L2.Binds K fd ["script"] [] ∧ FnOk P w K mg base (L2.CX P w) (k + 1) f fd ["script"] (spNum K) := by
  obtain ⟨f, fd, F, hmg, hb⟩ := Fx
  refine ⟨f, fd, hmg, F.kp, hb, F.okX S (fun vs H Q E h => h.1) fun cdv A outer s H vs Q E hr h => ?_⟩
  obtain ⟨_, a, ns, rfl, hq, hl, ho, h⟩ := h
  refine ⟨_, hd f cdv A outer s H E ns hr, ⟨0, false, locked H, H, a, .non⟩, locked H, _, none, num_start hn, ?_⟩
  show ∀ σ' H' S', _
  intro σ1 H1 S1 I1 e1
  have er : (Sl.sc :: List.replicate n Sl.no).set 1 (.ow (.lst [])) = .sc :: .ow (.lst []) :: List.replicate (n - 1) .no := by
    obtain ⟨m, rfl⟩ : ∃ m, n = m + 1 := ⟨n - 1, by omega⟩
    rfl
  rw [er] at I1
  refine ⟨_, S1, _, none, I1, rfl, sq_locked ho hq, ?_⟩
  obtain ⟨ms, ρ', hs, hf, hρ⟩ := hm ns hl
  rw [hf]
  intro σ2 H2 S2 I2 e2
  refine ⟨_, S2, ρ', none, I2, ?_⟩
  have il : 1 < ρ'.length := (List.getElem?_eq_some_iff.mp hρ).1
  have hsh : shutS 1 (retS (varD 1)) ρ' none = .rt (.list (ms.map PyData.int)) none := by
    unfold shutS
    rw [hρ]
    show (retS (varD 1)) (ρ'.set 1 (.sh (.list (ms.map PyData.int)))) none = _
    unfold retS stE varD
    rw [List.getElem?_set_self il]
  rw [hsh]
  intro v H3 S3 F3 r3
  cases r3 with
  | @lst p xs ds hx qx =>
    have ex := qx.ints
    subst ex
    refine h p H3 ms (fun b o e => F3.keep b o e (fun z => nomatch z)) ?_ (F3.sub _ _ hx) hs
    rcases F3.new p (by rw [hx]; simp) with z | z
    · exfalso
      cases e : locked H p with
      | none => exact z e
      | some o =>
        obtain ⟨_, o', u, rfl⟩ := locked_some e
        rw [F3.base p _ e] at hx
        cases hx
    · exact z
/-! ### the law -/
def spLaw (K : PySem.W.Frag) : Sp := fun vs H Q _ => ∃ (a : Addr) (ns : List Int), vs = [.ref a] ∧ SqL K H a (ns.map V.int) ∧ ns.length ≤ 63 ∧ Only H ∧ ∀ H', Q (.bl true) H'
theorem law_start {H : Hp} {a p q : Addr} {ms : List Int} {N : List Str} {n : Nat} (hn : N.length - 2 = n) (hp : H p = some (.lst (ms.map V.int))) (hq : H q = none) :
    Good ⟨q, true, upd (fun _ => none) p (.lst (ms.map V.int)), upd H q (.lst [.ref p, .int 0]), 0, .ref p⟩ (some (.ref a) :: some (.ref q) :: List.replicate n none) (upd H q (.lst [.ref p, .int 0])) (upd (fun _ => none) p (.lst (ms.map V.int))) (.no :: .dr :: List.replicate n .no) (some (ms, 0)) := by
  have hpq : p ≠ q := ne_of_none hp hq
  have rep : ∀ (i : Nat) (z : Sl), z ≠ .no → (List.replicate n Sl.no)[i]? ≠ some z := fun i z hz h => by
    rw [List.getElem?_replicate] at h
    split at h
    · exact hz (Option.some.inj h).symm
    · cases h
  have only : ∀ (i : Nat) (z : Sl), z ≠ .no → z ≠ .dr → (Sl.no :: .dr :: List.replicate n .no)[i]? ≠ some z := fun i z h1 h2 h => by
    match i, h with
    | 0, h => exact h1 (Option.some.inj h).symm
    | 1, h => exact h2 (Option.some.inj h).symm
    | i + 2, h => exact rep i z h1 h
  refine ⟨⟨fun b o h => ?_, fun _ _ h _ => h, Same.refl _, fun _ h => .inl h, fun _ h => h, fun _ => ?_, ⟨rfl, upd_same, .lst upd_same (Rps.of_ints ms)⟩⟩, ?_, fun i d h => absurd h (only i _ (fun z => nomatch z) (fun z => nomatch z)), fun i h => ?_, fun i h => absurd h (only i _ (fun z => nomatch z) (fun z => nomatch z)), fun i b h => absurd h (only i _ (fun z => nomatch z) (fun z => nomatch z)), (fun i j b c x h _ _ _ => absurd h (only i _ (fun z => nomatch z) (fun z => nomatch z))), fun i rows x cs h _ _ => absurd h (only i _ (fun z => nomatch z) (fun z => nomatch z))⟩
  · by_cases hb : b = p
    · subst hb
      rw [upd_same] at h
      rw [upd_ne hpq, hp, ← h]
    · rw [upd_ne hb] at h
      cases h
  · exact upd_ne (Ne.symm hpq)
  · rw [List.length_cons, List.length_cons, List.length_cons, List.length_cons, List.length_replicate, List.length_replicate]
  · match i, h with
    | 0, h => cases h
    | 1, _ => exact ⟨rfl, rfl⟩
    | i + 2, h => exact absurd h (rep i _ (fun z => nomatch z))
/-- the law: draws = [_law_numbers(script), 0], then a body that hands back True -/
theorem law_ok {st : Stmt} {N : List Str} {k : Nat} {body : Sm} {f : Addr} {fd : FuncData} (F : Fun K "law" "law" st f fd) (S : FnScope N ["script"] (defScope st)) {n : Nat}
    (hd : ∀ (cdv : Value) (A : Around) (outer : List PySem.Env) (s : Shared) (H : Hp) (E : XK), Room k (A.deeper (envOfC "law" (defScope st) s.heap.objs.size f cdv)) →
      PSs (cxOf (L2.CX P w) P w K mg base N "law" (defScope st) f cdv A outer s H E) (defBody st) (tSeq (tAsg (tLst (tCons (tCallS (spNum K) (WE fun c d _ H => E c d H) (tCons (tVar 0) tNil)) (tCons (tC (.int 0)) tNil))) (gName 1)) (tS cls (fun c d _ H => E c d H) body)))
    (hm : ∀ ms : List Int, Small ms → ∃ g', body (.no :: .dr :: List.replicate n .no) (some (ms, 0)) = .rt (.bool true) g') (hn : N.length - 2 = n := by rfl) (h2 : 2 ≤ N.length := by decide) : FnOk P w K mg base (L2.CX P w) (k + 1) f fd ["script"] (spLaw K) := by
  refine F.okX S (fun vs H Q E h => ?_) fun cdv A outer s H vs Q E hr h => ?_
  · obtain ⟨a, ns, rfl, _⟩ := h
    rfl
  · obtain ⟨a, ns, rfl, hq, hl, ho, h⟩ := h
    refine ⟨_, hd cdv A outer s H E hr, ?_⟩
    have e0 : (L2.start N [V.ref a])[0]? = some (some (.ref a)) := rfl
    refine ⟨.ref a, e0, rfl, a, ns, rfl, hq, hl, ho, fun p H1 ms sm np hp hs => ?_⟩
    refine ⟨by show 2 ≤ sizeLine; rw [sizeLine_eq]; decide, fun q hq1 => ?_⟩
    obtain ⟨g', hb⟩ := hm ms hs
    have est : (L2.start N [V.ref a]).set 1 (some (.ref q)) = some (.ref a) :: some (.ref q) :: List.replicate n none := by
      unfold L2.start
      obtain ⟨m, hm'⟩ : ∃ m, N.length - [V.ref a].length = m + 1 := ⟨N.length - 2, by show N.length - 1 = _; omega⟩
      have : m = n := by
        have : N.length - 1 = m + 1 := hm'
        omega
      rw [hm', this]
      rfl
    show (tS cls _ body) _ ((L2.start N [V.ref a]).set 1 (some (.ref q))) _
    rw [est]
    refine ⟨_, _, _, _, law_start hn hp hq1, ?_⟩
    rw [hb]
    intro v H2 S2 F2 r2
    cases r2
    exact h H2
end
end DL

set_option Elab.async false
set_option linter.all false
set_option maxRecDepth 100000
set_option maxHeartbeats 400000
/-! plain facts about mirrors -/
namespace DL
open PySem
@[simp] theorem setS_ap (i : Nat) (f : Ex) (ρ : Nv) (g : G) : setS i f ρ g = match f ρ g with
  | .ok d g1 => .nx (ρ.set i (.sh d)) g1
  | .ex n g1 => .ex n ρ g1
  | .bad => .bad := rfl
@[simp] theorem asgS_ap (f : Ex) (t : Tg) (ρ : Nv) (g : G) : asgS f t ρ g = match f ρ g with
  | .ok d g1 => match t d ρ with
    | some ρ1 => .nx ρ1 g1
    | none => .bad
  | .ex n g1 => .ex n ρ g1
  | .bad => .bad := rfl
@[simp] theorem dropS_ap (f : Ex) (ρ : Nv) (g : G) : dropS f ρ g = match f ρ g with
  | .ok _ g1 => .nx ρ g1
  | .ex n g1 => .ex n ρ g1
  | .bad => .bad := rfl
@[simp] theorem retS_ap (f : Ex) (ρ : Nv) (g : G) : retS f ρ g = match f ρ g with
  | .ok d g1 => .rt d g1
  | .ex n g1 => .ex n ρ g1
  | .bad => .bad := rfl
@[simp] theorem drSetS_ap (i : Nat) (f : Ex) (ρ : Nv) (g : G) : drSetS i f ρ g = match f ρ g with
  | .ok d g1 => match ρ[i]?, g1, d with
    | some .dr, some (ns, _), .int j => .nx ρ (some (ns, j))
    | _, _, _ => .bad
  | .ex n g1 => .ex n ρ g1
  | .bad => .bad := rfl
/-- a loop by what holds behind each part of its items -/
theorem forD_all {α : Type} {t : Tg} {body : Sm} (enc : α → PyData) (R : List α → Nv → G → Prop) (xs : List α) (h : ∀ pre x post, xs = pre ++ x :: post → ∀ ρ g, R pre ρ g → ∃ ρ1 ρ2 g2, t (enc x) ρ = some ρ1 ∧ (body ρ1 g = .nx ρ2 g2 ∨ body ρ1 g = .ct ρ2 g2) ∧ R (pre ++ [x]) ρ2 g2) {ρ : Nv} {g : G} (h0 : R [] ρ g) :
    ∃ ρ' g', forD t body (xs.map enc) ρ g = .nx ρ' g' ∧ R xs ρ' g' := by
  have key : ∀ (post pre : List α) ρ g, xs = pre ++ post → R pre ρ g → ∃ ρ' g', forD t body (post.map enc) ρ g = .nx ρ' g' ∧ R xs ρ' g' := by
    intro post
    induction post with
    | nil =>
      intro pre ρ g e r
      rw [List.append_nil] at e
      subst e
      exact ⟨ρ, g, rfl, r⟩
    | cons x post ih =>
      intro pre ρ g e r
      obtain ⟨ρ1, ρ2, g2, h1, h2, h3⟩ := h pre x post e ρ g r
      obtain ⟨ρ', g', h4, h5⟩ := ih (pre ++ [x]) ρ2 g2 (by rw [e, List.append_assoc]; rfl) h3
      refine ⟨ρ', g', ?_, h5⟩
      rw [List.map_cons]
      unfold forD
      rw [h1]
      rcases h2 with h2 | h2
      · simp only [h2, h4]
      · simp only [h2, h4]
  exact key xs [] ρ g rfl h0
/-- a comprehension by what holds behind each part of its items -/
theorem compD_all {α : Type} {t : Tg} {cond : Te} {elt : Ex} (enc : α → PyData) (R : List α → List PyData → G → Prop) (xs : List α) (ρ : Nv)
    (h : ∀ pre x post, xs = pre ++ x :: post → ∀ ys g, R pre ys g → ∃ ρ1 g1, t (enc x) ρ = some ρ1 ∧ ((cond ρ1 g = .ok false g1 ∧ R (pre ++ [x]) ys g1) ∨ (cond ρ1 g = .ok true g1 ∧ ∃ y g2, elt ρ1 g1 = .ok y g2 ∧ R (pre ++ [x]) (ys ++ [y]) g2))) {g : G} (h0 : R [] [] g) :
    ∃ ys g', compD t cond elt (xs.map enc) ρ g = .ok ys g' ∧ R xs ys g' := by
  have key : ∀ (post pre : List α) ys g, xs = pre ++ post → R pre ys g → ∃ zs g', compD t cond elt (post.map enc) ρ g = .ok zs g' ∧ R xs (ys ++ zs) g' := by
    intro post
    induction post with
    | nil =>
      intro pre ys g e r
      rw [List.append_nil] at e
      subst e
      exact ⟨[], g, rfl, by rw [List.append_nil]; exact r⟩
    | cons x post ih =>
      intro pre ys g e r
      obtain ⟨ρ1, g1, h1, h2⟩ := h pre x post e ys g r
      rcases h2 with ⟨h2, h3⟩ | ⟨h2, y, g2, h3, h4⟩
      · obtain ⟨zs, g', h4, h5⟩ := ih (pre ++ [x]) ys g1 (by rw [e, List.append_assoc]; rfl) h3
        refine ⟨zs, g', ?_, h5⟩
        rw [List.map_cons]
        unfold compD
        rw [h1]
        simp only [h2, h4]
      · obtain ⟨zs, g', h5, h6⟩ := ih (pre ++ [x]) (ys ++ [y]) g2 (by rw [e, List.append_assoc]; rfl) h4
        refine ⟨y :: zs, g', ?_, by rw [List.append_assoc] at h6; exact h6⟩
        rw [List.map_cons]
        unfold compD
        rw [h1]
        simp only [h2, h3, h5]
        rfl
  obtain ⟨zs, g', h1, h2⟩ := key xs [] [] g rfl h0
  exact ⟨zs, g', h1, h2⟩
/-- a comprehension that draws nothing: filter and map -/
theorem compD_pure {α : Type} {t : Tg} {cond : Te} {elt : Ex} (enc : α → PyData) (c : α → Bool) (e : α → PyData) (xs : List α) (ρ : Nv) (g : G)
    (h : ∀ x ∈ xs, ∃ ρ1, t (enc x) ρ = some ρ1 ∧ cond ρ1 g = .ok (c x) g ∧ (c x = true → elt ρ1 g = .ok (e x) g)) : compD t cond elt (xs.map enc) ρ g = .ok ((xs.filter c).map e) g := by
  induction xs with
  | nil => rfl
  | cons x xs ih =>
    obtain ⟨ρ1, h1, h2, h3⟩ := h x List.mem_cons_self
    have ih' := ih fun y hy => h y (List.mem_cons_of_mem _ hy)
    rw [List.map_cons]
    unfold compD
    rw [h1]
    simp only
    rw [h2]
    cases hc : c x with
    | false =>
      simp only [ih']
      rw [List.filter_cons_of_neg (by rw [hc]; decide)]
    | true =>
      simp only [h3 hc, ih']
      rw [List.filter_cons_of_pos hc]
      rfl
theorem upFrom_zero (lo : Int) : upFrom lo 0 = [] := rfl
theorem upFrom_succ (lo : Int) (n : Nat) : upFrom lo (n + 1) = .int lo :: upFrom (lo + 1) n := by
  unfold upFrom
  rw [List.range_succ_eq_map, List.map_cons, List.map_map]
  congr 1
  · simp
  · apply List.map_congr_left
    intro k _
    show PyData.int (lo + ((k + 1 : Nat) : Int)) = PyData.int (lo + 1 + (k : Int))
    congr 1
    omega
theorem atI_at {α : Type} {xs : List α} {i : Int} {j : Nat} {v : α} (e : i = (j : Int)) (h : xs[j]? = some v) : L2.atI xs i = some v := by
  rw [e]
  exact L2.atI_nat h
theorem upFrom_map (lo : Int) (n : Nat) : upFrom lo n = (List.range n).map fun (k : Nat) => PyData.int (lo + (k : Int)) := rfl
end DL

set_option Elab.async false
set_option linter.all false
set_option maxRecDepth 100000
set_option maxHeartbeats 400000
/-! The data layer, part 7: peeks at things of one's own, items set, lists of lists, max and min. -/
namespace DL
open PySem PySem.Spec PyProof.Rows L2
theorem Rps.of_get {S : Hp} : ∀ {vs : List V} {ds : List PyData}, vs.length = ds.length → (∀ (k : Nat) (v : V) (d : PyData), vs[k]? = some v → ds[k]? = some d → Rp S v d) → Rps S vs ds
  | [], [], _, _ => .nil
  | [], _ :: _, h, _ => by cases h
  | _ :: _, [], h, _ => by cases h
  | v :: vs, d :: ds, h, k => .cons (k 0 v d rfl rfl) (Rps.of_get (Nat.succ.inj h) fun j x y h1 h2 => k (j + 1) x y (by simpa using h1) (by simpa using h2))
section
variable {B : Bs} {σ : L2.St} {H S : Hp} {ρ : Nv} {g : G}
/-- a list of lists of one's own becomes a datum -/
theorem Good.shutM (I : Good B σ H S ρ g) {i : Nat} {rows : List (List PyData)} (hi : ρ[i]? = some (.ow (.mat rows))) : ∃ S', Same S S' ∧ Good B σ H S' (ρ.set i (.sh (.list (rows.map PyData.list)))) g := by
  obtain ⟨a, cs, h1, h5, hl, h2, h3, h4, R⟩ := I.rows hi
  obtain ⟨_, A1, A2⟩ := I.mx i rows a cs hi h1 h5
  have hlt : i < ρ.length := (List.getElem?_eq_some_iff.mp hi).1
  have key : ∀ (j : Nat) (z : Sl), (ρ.set i (.sh (.list (rows.map PyData.list))))[j]? = some z → (j = i ∧ z = .sh (.list (rows.map PyData.list))) ∨ (j ≠ i ∧ ρ[j]? = some z) := fun j z h => by
    by_cases hj : j = i
    · subst hj
      rw [List.getElem?_set_self hlt] at h
      exact .inl ⟨rfl, (Option.some.inj h).symm⟩
    · rw [List.getElem?_set_ne (Ne.symm hj)] at h
      exact .inr ⟨hj, h⟩
  let S' : Hp := fun x => if x = a ∨ x ∈ cs then H x else S x
  have inS : ∀ x, (x = a ∨ x ∈ cs) → S' x = H x := fun x h => if_pos h
  have ouS : ∀ x, ¬ (x = a ∨ x ∈ cs) → S' x = S x := fun x h => if_neg h
  have mem : ∀ x, (x = a ∨ x ∈ cs) → S x = none ∧ (B.live = true → x ≠ B.A) ∧ B.H x = none := fun x h => by
    rcases h with rfl | h
    · exact ⟨h2, h3, h4⟩
    · obtain ⟨k1, k2, k3, _⟩ := R.row hl h
      exact ⟨k1, k2, k3⟩
  have sm : Same S S' := fun c u q => by
    rw [ouS c fun z => by rw [(mem c z).1] at q; cases q]
    exact q
  refine ⟨S', sm, ⟨fun c u q => ?_, I.keep, I.base.trans sm, fun c q => ?_, I.there, fun hv => ?_, I.dr.mono sm fun _ => rfl⟩, by rw [List.length_set]; exact I.len, fun j d h => ?_, fun j h => ?_, fun j h => ?_, fun j c h => ?_, fun j l c d x k1 k2 k3 k4 => ?_, I.mxMove sm (fun j c h => ?_) (fun j rows h => ?_) (fun _ _ _ _ _ => rfl) fun j rows' x cs' _ h h' h2' c hc => ⟨rfl, ?_⟩⟩
  · by_cases hc : c = a ∨ c ∈ cs
    · rw [inS c hc] at q; exact q
    · rw [ouS c hc] at q; exact I.sub _ _ q
  · by_cases hc : c = a ∨ c ∈ cs
    · exact .inr (mem c hc).2.2
    · rw [ouS c hc] at q; exact I.new c q
  · rw [ouS B.A fun z => (mem B.A z).2.1 hv rfl]; exact I.no hv
  · rcases key j _ h with ⟨rfl, e⟩ | ⟨_, h⟩
    · cases e
      refine ⟨.ref a, h1, .lst (by rw [inS a (.inl rfl)]; exact h5) (Rps.of_get (by rw [List.length_map, List.length_map]; exact hl) fun k v d e1 e2 => ?_)⟩
      rw [List.getElem?_map] at e1 e2
      obtain ⟨c, hc, rfl⟩ := Option.map_eq_some_iff.mp e1
      obtain ⟨row, hr, rfl⟩ := Option.map_eq_some_iff.mp e2
      obtain ⟨_, _, _, vs, q1, q2⟩ := R.at_ k c row hc hr
      exact .lst (by rw [inS c (.inr (List.mem_of_getElem? hc))]; exact q1) (q2.mono sm)
    · obtain ⟨v, q1, q2⟩ := I.sh j d h
      exact ⟨v, q1, q2.mono sm⟩
  · rcases key j _ h with ⟨rfl, e⟩ | ⟨_, h⟩
    · cases e
    · exact I.dw j h
  · rcases key j _ h with ⟨rfl, e⟩ | ⟨_, h⟩
    · cases e
    · exact I.sw j h
  · rcases key j _ h with ⟨rfl, e⟩ | ⟨hj, h⟩
    · cases e
    · obtain ⟨x, u, q1, q2, q3, q4, q5, q6⟩ := I.ow j c h
      have hx : ¬ (x = a ∨ x ∈ cs) := fun z => by
        rcases z with z | z
        · exact hj (I.ap j i c _ a h hi (by rw [q1, z]) h1)
        · exact A1 j c x h q1 z
      exact ⟨x, u, q1, by rw [ouS x hx]; exact q2, q3, q4, q5, q6.mono sm⟩
  · rcases key j _ k1 with ⟨rfl, e⟩ | ⟨_, k1⟩
    · cases e
    · rcases key l _ k2 with ⟨rfl, e⟩ | ⟨_, k2⟩
      · cases e
      · exact I.ap j l c d x k1 k2 k3 k4
  · rcases key j _ h with ⟨rfl, e⟩ | ⟨_, h⟩
    · cases e
    · exact ⟨⟨c, h⟩, rfl⟩
  · rcases key j _ h with ⟨rfl, e⟩ | ⟨_, h⟩
    · cases e
    · exact h
  · have hji : j ≠ i := fun z => by subst z; rename_i hq; rcases key j _ hq with ⟨_, e⟩ | ⟨q, _⟩; cases e; exact q rfl
    obtain ⟨R', A1', A2'⟩ := I.mx j rows' x cs' h h' h2'
    rw [ouS c fun z => by
      rcases z with z | z
      · exact A1' i _ a hi h1 (by rw [← z]; exact hc)
      · exact A2 j rows' x cs' hji h h' h2' c z hc]
    exact (R'.row (I.rowsAt h h' h2') hc).1
/-- what a thing of one's own is as a datum -/
@[simp] def obD : Ob → Option PyData
  | .lst ds => some (.list ds)
  | .mat rows => some (.list (rows.map PyData.list))
  | _ => none
theorem Good.shutB (I : Good B σ H S ρ g) {i : Nat} {b : Ob} {d : PyData} (hi : ρ[i]? = some (.ow b)) (hd : obD b = some d) : ∃ S', Same S S' ∧ Good B σ H S' (ρ.set i (.sh d)) g := by
  cases b with
  | lst ds => cases hd; exact I.shut hi
  | mat rows => cases hd; exact I.shutM hi
  | dk _ => cases hd
  | dt _ => cases hd
end
@[simp] def scal : PyData → Bool
  | .none => true
  | .bool _ => true
  | .int _ => true
  | .str _ => true
  | _ => false
theorem Rp.scal {S S' : Hp} {v : V} {d : PyData} (r : Rp S v d) (h : scal d = true) : Rp S' v d := by
  cases r with
  | non => exact .non
  | bl b => exact .bl b
  | int i => exact .int i
  | str x => exact .str x
  | lst _ _ => cases h
  | tup _ _ => cases h
theorem Rps.scal {S S' : Hp} : ∀ {ds : List PyData} {vs : List V}, Rps S vs ds → ds.all DL.scal = true → Rps S' vs ds
  | _, _, .nil, _ => .nil
  | _, _, .cons r t, h => by
    rw [List.all_cons, Bool.and_eq_true] at h
    exact .cons (r.scal h.1) (Rps.scal t h.2)
section
variable {X : Cx} {cls : Nat → Value} {W : WX} {pos : Pos} {a b c e : Expr} {fa fb fc : Ex} {D : Ends} {σ : L2.St} {H : Hp} {st : Stmt} {rest : List Stmt}
/-- a thing of one's own is looked at as if it were a datum; what comes of it is no object -/
def peekD (i : Nat) (f : Ex) : Ex := fun ρ g => match ρ[i]? with
  | some (.ow b) => (match obD b with
    | some d => (match f (ρ.set i (.sh d)) g with
      | .ok x g1 => if scal x = true then .ok x g1 else .bad
      | _ => .bad)
    | none => .bad)
  | some (.sh _) => f ρ g
  | _ => .bad
def peekT (i : Nat) (f : Te) : Te := fun ρ g => match ρ[i]? with
  | some (.ow b) => (match obD b with
    | some d => (match f (ρ.set i (.sh d)) g with
      | .ok x g1 => .ok x g1
      | _ => .bad)
    | none => .bad)
  | some (.sh _) => f ρ g
  | _ => .bad
def peekO (i : Nat) (f : Ow) : Ow := fun ρ g => match ρ[i]? with
  | some (.ow b) => (match obD b with
    | some d => (match f (ρ.set i (.sh d)) g with
      | .ok (.lst xs) g1 => if xs.all scal = true then .ok (.lst xs) g1 else .bad
      | _ => .bad)
    | none => .bad)
  | some (.sh _) => f ρ g
  | _ => .bad
/-- back from a look -/
theorem Good.unpeek {B : Bs} {σ : L2.St} {H S S' H1 S1 : Hp} {ρ ρ' : Nv} {g g1 : G} (I : Good B σ H S ρ g) (sm : Same S S') (I1 : Good B σ H1 S1 ρ' g1) (e : Gr B H S' H1 S1) : Good B σ H1 S ρ g1 ∧ Gr B H S H1 S := by
  have gr : Gr B H S H1 S := ⟨e.keep, Same.refl _, fun _ h => .inl h, e.there⟩
  refine ⟨I.grow gr ((sm.trans e.base).trans I1.sub) ?_, gr⟩
  have d1 : DrAt B H1 S1 g1 := I1.dr
  have d0 : DrAt B H S g := I.dr
  cases g1 with
  | none => exact d1
  | some y =>
    obtain ⟨ns1, k1⟩ := y
    obtain ⟨hl, h1, h2⟩ := d1
    cases g with
    | none =>
      have hn : B.live = false := d0
      rw [hn] at hl; cases hl
    | some z =>
      obtain ⟨ns, k⟩ := z
      obtain ⟨_, _, h3⟩ := d0
      have q := (h3.mono (sm.trans e.base)).one h2
      rw [← q] at h2
      refine ⟨hl, h1, ?_⟩
      rw [← q]
      exact h3
theorem peekE_of {i : Nat} {f : Ex} {Q : VK} (h : tE cls W (peekD i f) σ H Q) : tE cls W f σ H Q := by
  obtain ⟨B, S, ρ, g, I, h⟩ := h
  unfold peekD at h
  split at h
  · rename_i b hi
    split at h
    · rename_i d hd
      obtain ⟨S', sm, I'⟩ := I.shutB hi hd
      refine ⟨B, S', _, _, I', ?_⟩
      cases ef : f (ρ.set i (.sh d)) g with
      | bad => rw [ef] at h; exact h
      | ex n g1 => rw [ef] at h; exact False.elim h
      | ok x g1 =>
        rw [ef] at h
        simp only at h
        by_cases hx : scal x = true
        · rw [if_pos hx] at h
          intro v H1 S1 I1 e1 r
          obtain ⟨J, gr⟩ := I.unpeek sm I1 e1
          exact h v H1 S J gr (r.scal hx)
        · rw [if_neg hx] at h; exact False.elim h
    · exact False.elim h
  · exact ⟨B, S, ρ, _, I, h⟩
  · exact False.elim h
theorem peekT_of {i : Nat} {f : Te} {Q : Bool → Hp → Prop} (h : tT cls W (peekT i f) σ H Q) : tT cls W f σ H Q := by
  obtain ⟨B, S, ρ, g, I, h⟩ := h
  unfold peekT at h
  split at h
  · rename_i b hi
    split at h
    · rename_i d hd
      obtain ⟨S', sm, I'⟩ := I.shutB hi hd
      refine ⟨B, S', _, _, I', ?_⟩
      cases ef : f (ρ.set i (.sh d)) g with
      | bad => rw [ef] at h; exact h
      | ex n g1 => rw [ef] at h; exact False.elim h
      | ok x g1 =>
        rw [ef] at h
        intro H1 S1 I1 e1
        obtain ⟨J, gr⟩ := I.unpeek sm I1 e1
        exact h H1 S J gr
    · exact False.elim h
  · exact ⟨B, S, ρ, _, I, h⟩
  · exact False.elim h
theorem peekO_of {i : Nat} {f : Ow} {Q : VK} (h : tO cls W (peekO i f) σ H Q) : tO cls W f σ H Q := by
  obtain ⟨B, S, ρ, g, I, h⟩ := h
  unfold peekO at h
  split at h
  · rename_i b hi
    split at h
    · rename_i d hd
      obtain ⟨S', sm, I'⟩ := I.shutB hi hd
      refine ⟨B, S', _, _, I', ?_⟩
      cases ef : f (ρ.set i (.sh d)) g with
      | bad => rw [ef] at h; exact h
      | ex n g1 => rw [ef] at h; exact False.elim h
      | ok x g1 =>
        rw [ef] at h
        cases x with
        | lst xs =>
          simp only at h
          by_cases hx : xs.all scal = true
          · rw [if_pos hx] at h
            intro l o H1 S1 I1 e1 n1 n2 ho r
            obtain ⟨J, gr⟩ := I.unpeek sm I1 e1
            refine h l o H1 S J gr ?_ n2 ho ?_
            · cases q : S l with
              | none => rfl
              | some u => rw [e1.base _ _ (sm _ _ q)] at n1; cases n1
            · cases r with
              | lst r => exact .lst (r.scal hx)
          · rw [if_neg hx] at h; exact False.elim h
        | _ => exact False.elim h
    · exact False.elim h
  · exact ⟨B, S, ρ, _, I, h⟩
  · exact False.elim h
theorem pd_peek (i : Nat) (h : PE X e (tE cls W fa)) : PE X e (tE cls W (peekD i fa)) := PE_imp h fun _ _ _ q => peekE_of q
theorem ptd_peek (i : Nat) {f : Te} (h : PT X e (tT cls W f)) : PT X e (tT cls W (peekT i f)) := PT_imp h fun _ _ _ q => peekT_of q
theorem po_peek (i : Nat) {f : Ow} (h : PE X e (tO cls W f)) : PE X e (tO cls W (peekO i f)) := PE_imp h fun _ _ _ q => peekO_of q
theorem psd_setLcOp (i k : Nat) {y : Str} {py : Pos} {elt tg iter : Expr} {ifs : List Expr} {scope : Scope} {own : List (Str × Nat)} {lpos : Pos} {ts : List Nat} {fi : Ar} {ft : Tg} {fc : Te} {fe : Ex} (hc : X.calm = true) (hN : X.N.Nodup)
    (hsw : swapsWith (.ListComp elt [⟨tg, iter, ifs, 0⟩] scope lpos) (some (.Name y py)) pos.line X.env = pure true) (hi : PI X tg iter (tI cls W fi)) (ok : BlkOk X.N X.env.scope scope own)
    (hg : ∀ (s : Shared) (H : Hp) (C : Addr) (cl : List (Str × Addr)) (fp : List Addr), PG (X.blk s H scope (compEnvC scope cl C X.env) fp) tg (tG ts ft)) (ht : ∀ (s : Shared) (H : Hp) (C : Addr) (cl : List (Str × Addr)) (fp : List Addr), PTs (X.blk s H scope (compEnvC scope cl C X.env) fp) ifs (tT cls W0 fc))
    (he : ∀ (s : Shared) (H : Hp) (C : Addr) (cl : List (Str × Addr)) (fp : List Addr), PE (X.blk s H scope (compEnvC scope cl C X.env) fp) elt (tE cls W0 fe)) (hts : ∀ i ∈ ts, i ∈ own.map (·.2) := by decide) (hy : X.N[i]? = some y := by rfl) (hyl : X.env.scope.names.lookup y = some .local := by rfl)
    (hs : ∀ x, foldedSetIterable iter X.env x = pure x := by intro _; rfl) :
    PS X (.Assign [.Name y py] (.ListComp elt [⟨tg, iter, ifs, 0⟩] scope lpos) pos) (tS cls W (setOS i (peekO k (lcO fi (own.map (·.2)) ft fc fe)))) :=
  PS_imp (ps_setLc hc hN hy hyl hsw hi ok hg ht he hs) fun D σ H h => lc_of hts σ H _ (peekO_of (setOS_of h))
/-- a thing of one's own, list or list of lists, is read as a datum from here on -/
@[simp] def shutXS (i : Nat) (s : Sm) : Sm := fun ρ g => match ρ[i]? with
  | some (.ow b) => (match obD b with
    | some d => s (ρ.set i (.sh d)) g
    | none => .bad)
  | _ => .bad
theorem pssd_shutX (i : Nat) {s : Sm} (h : PSs X rest (tS cls W s)) : PSs X rest (tS cls W (shutXS i s)) := PSs_imp h fun D σ H ⟨B, S, ρ, g, I, h⟩ => by
  unfold shutXS at h
  split at h
  · rename_i b hi
    split at h
    · rename_i d hd
      obtain ⟨S', sm, I'⟩ := I.shutB hi hd
      exact ⟨B, S', _, g, I', SO_gr sm h⟩
    · exact False.elim h
  · exact False.elim h
end
end DL

set_option Elab.async false
set_option linter.all false
set_option maxRecDepth 100000
set_option maxHeartbeats 400000
/-! The data layer, part 8: max, min, abs, is of truth values, index, items set. -/
namespace DL
open PySem PySem.Spec PyProof.Rows L2
/-- the greatest, the least of numbers -/
def maxI : List Int → Option Int
  | [] => none
  | n :: r => some (match maxI r with | none => n | some m => if n ≤ m then m else n)
def minI : List Int → Option Int
  | [] => none
  | n :: r => some (match minI r with | none => n | some m => if n ≤ m then n else m)
theorem maxI_spec : ∀ {ns : List Int} {m : Int}, maxI ns = some m → m ∈ ns ∧ ∀ y ∈ ns, y ≤ m
  | [], m, h => by cases h
  | n :: r, m, h => by
    unfold maxI at h
    cases e : maxI r with
    | none =>
      rw [e] at h
      simp only [Option.some.injEq] at h
      subst h
      cases r with
      | nil => exact ⟨by simp, fun y hy => by simp at hy; omega⟩
      | cons a b => unfold maxI at e; cases e
    | some k =>
      rw [e] at h
      obtain ⟨h1, h2⟩ := maxI_spec e
      simp only [Option.some.injEq] at h
      by_cases hk : n ≤ k
      · rw [if_pos hk] at h
        subst h
        exact ⟨List.mem_cons_of_mem _ h1, fun y hy => by
          rcases List.mem_cons.mp hy with rfl | hy
          · exact hk
          · exact h2 y hy⟩
      · rw [if_neg hk] at h
        subst h
        exact ⟨List.mem_cons_self, fun y hy => by
          rcases List.mem_cons.mp hy with rfl | hy
          · exact Int.le_refl _
          · have := h2 y hy; omega⟩
theorem minI_spec : ∀ {ns : List Int} {m : Int}, minI ns = some m → m ∈ ns ∧ ∀ y ∈ ns, m ≤ y
  | [], m, h => by cases h
  | n :: r, m, h => by
    unfold minI at h
    cases e : minI r with
    | none =>
      rw [e] at h
      simp only [Option.some.injEq] at h
      subst h
      cases r with
      | nil => exact ⟨by simp, fun y hy => by simp at hy; omega⟩
      | cons a b => unfold minI at e; cases e
    | some k =>
      rw [e] at h
      obtain ⟨h1, h2⟩ := minI_spec e
      simp only [Option.some.injEq] at h
      by_cases hk : n ≤ k
      · rw [if_pos hk] at h
        subst h
        exact ⟨List.mem_cons_self, fun y hy => by
          rcases List.mem_cons.mp hy with rfl | hy
          · exact Int.le_refl _
          · have := h2 y hy; omega⟩
      · rw [if_neg hk] at h
        subst h
        exact ⟨List.mem_cons_of_mem _ h1, fun y hy => by
          rcases List.mem_cons.mp hy with rfl | hy
          · omega
          · exact h2 y hy⟩
theorem maxI_some {ns : List Int} (h : ns ≠ []) : ∃ m, maxI ns = some m := by
  cases ns with
  | nil => exact absurd rfl h
  | cons n r => exact ⟨_, rfl⟩
theorem minI_some {ns : List Int} (h : ns ≠ []) : ∃ m, minI ns = some m := by
  cases ns with
  | nil => exact absurd rfl h
  | cons n r => exact ⟨_, rfl⟩
theorem maxI_is {ns : List Int} {m : Int} (h1 : m ∈ ns) (h2 : ∀ y ∈ ns, y ≤ m) : maxI ns = some m := by
  obtain ⟨k, hk⟩ := maxI_some (ns := ns) (fun z => by rw [z] at h1; cases h1)
  obtain ⟨k1, k2⟩ := maxI_spec hk
  have := h2 k k1
  have := k2 m h1
  rw [hk]; congr 1; omega
theorem minI_is {ns : List Int} {m : Int} (h1 : m ∈ ns) (h2 : ∀ y ∈ ns, m ≤ y) : minI ns = some m := by
  obtain ⟨k, hk⟩ := minI_some (ns := ns) (fun z => by rw [z] at h1; cases h1)
  obtain ⟨k1, k2⟩ := minI_spec hk
  have := h2 k k1
  have := k2 m h1
  rw [hk]; congr 1; omega
def maxD : PyData → Option PyData
  | .list ds => (intsD ds).bind fun ns => (maxI ns).map PyData.int
  | _ => none
def minD : PyData → Option PyData
  | .list ds => (intsD ds).bind fun ns => (minI ns).map PyData.int
  | _ => none
@[simp] def max2D : PyData → PyData → Option PyData
  | .int i, .int j => some (.int (if j > i then j else i))
  | _, _ => none
@[simp] def min2D : PyData → PyData → Option PyData
  | .int i, .int j => some (.int (if j < i then j else i))
  | _, _ => none
@[simp] def absD : PyData → Option PyData
  | .int i => some (.int (if i < 0 then -i else i))
  | _ => none
@[simp] def isBD : PyData → PyData → Option PyData
  | .bool a, .bool b => some (.bool (decide (a = b)))
  | _, _ => none
@[simp] def notBD : PyData → PyData → Option PyData
  | .bool a, .bool b => some (.bool (!decide (a = b)))
  | _, _ => none
section
variable {X : Cx} {cls : Nat → Value} {W : WX} {pos : Pos} {a b c e : Expr} {fa fb fc : Ex} {D : Ends} {σ : L2.St} {H : Hp} {st : Stmt} {rest : List Stmt} {k : Nat}
theorem sp_max {K : PySem.W.Frag} : Spec1c (rMax K) maxD := fun B σ H S ρ g x d v Q e I r k => by
  cases r with
  | @lst a xs ds h q =>
    have e : ((intsD ds).bind fun ns => (maxI ns).map PyData.int) = some d := e
    cases hi : intsD ds with
    | none => rw [hi] at e; cases e
    | some ns =>
      rw [hi] at e
      simp only [Option.bind_some] at e
      obtain ⟨m, hm, rfl⟩ := Option.map_eq_some_iff.mp e
      rw [intsD_eq hi] at q
      have ex := q.ints
      subst ex
      obtain ⟨h1, h2⟩ := maxI_spec hm
      refine ⟨a, ns, rfl, .of (I.sub _ _ h), List.length_pos_of_mem h1, fun m' k1 k2 => ?_⟩
      have e1 := k2 m h1
      have e2 := h2 m' k1
      rw [show m' = m by omega]
      exact k _ H S I .refl (.int _)
  | _ => cases e
theorem sp_min {K : PySem.W.Frag} : Spec1c (rMin K) minD := fun B σ H S ρ g x d v Q e I r k => by
  cases r with
  | @lst a xs ds h q =>
    have e : ((intsD ds).bind fun ns => (minI ns).map PyData.int) = some d := e
    cases hi : intsD ds with
    | none => rw [hi] at e; cases e
    | some ns =>
      rw [hi] at e
      simp only [Option.bind_some] at e
      obtain ⟨m, hm, rfl⟩ := Option.map_eq_some_iff.mp e
      rw [intsD_eq hi] at q
      have ex := q.ints
      subst ex
      obtain ⟨h1, h2⟩ := minI_spec hm
      refine ⟨a, ns, rfl, .of (I.sub _ _ h), List.length_pos_of_mem h1, fun m' k1 k2 => ?_⟩
      have e1 := k2 m h1
      have e2 := h2 m' k1
      rw [show m' = m by omega]
      exact k _ H S I .refl (.int _)
  | _ => cases e
theorem pd_max1 {p : Pos} (hc : X.calm = true) (hm : X.mg "max" = none) (ha : PE X a (tE cls W fa)) (hg : Gl X "max" := by rfl) (hs : starEach [a] X.env = (false, eval a X.env) :: starEach [] X.env := by rfl) : PE X (.Call (.Name "max" p) [a] [] pos) (tE cls W (unD maxD fa)) :=
  pd_call1B (cr_max hc) sp_max hm boot_max ha hg (by decide) (by decide) hs
theorem pd_min1 {p : Pos} (hc : X.calm = true) (hm : X.mg "min" = none) (ha : PE X a (tE cls W fa)) (hg : Gl X "min" := by rfl) (hs : starEach [a] X.env = (false, eval a X.env) :: starEach [] X.env := by rfl) : PE X (.Call (.Name "min" p) [a] [] pos) (tE cls W (unD minD fa)) :=
  pd_call1B (cr_min hc) sp_min hm boot_min ha hg (by decide) (by decide) hs
theorem boot_abs : bootBuiltins "abs" = some (.builtin "abs") := by decide +kernel
theorem pd_abs {p : Pos} (hm : X.mg "abs" = none) (ha : PE X a (tE cls W fa)) (hg : Gl X "abs" := by rfl) (hs : starEach [a] X.env = (false, eval a X.env) :: starEach [] X.env := by rfl) : PE X (.Call (.Name "abs" p) [a] [] pos) (tE cls W (unD absD fa)) :=
  pd_call1B call_abs (fun B σ H S ρ g x d v Q e I r k => by
    cases r with
    | int i => cases e; exact ⟨i, rfl, k _ H S I .refl (.int _)⟩
    | _ => cases e) hm boot_abs ha hg (by decide) (by decide) hs
/-- a built-in of two data -/
theorem op2_of {r : List V → Hp → VK → Prop} {op : PyData → PyData → Option PyData} (sp : Spec2 (fun x y H Q => r [x, y] H Q) op) (σ : L2.St) (H : Hp) (Q : VK) (h : tE cls W (opD op fa fb) σ H Q) : tCB r (tCons (tE cls W fa) (tCons (tE cls W fb) tNil)) σ H Q :=
  op_of sp σ H Q h
theorem pd_call2B {x : Str} {p : Pos} {id : String} {r : List V → Hp → VK → Prop} {op : PyData → PyData → Option PyData} (hc : CallR X (.builtin id) r) (sp : Spec2 (fun x y H Q => r [x, y] H Q) op) (hm : X.mg x = none) (hv : bootBuiltins x = some (.builtin id)) (ha : PE X a (tE cls W fa)) (hb : PE X b (tE cls W fb)) (hg : Gl X x := by rfl)
    (hn : x ≠ "__name__" := by decide) (hd : (x == ("__debug__" : Str)) = false := by decide) (hs : starEach [a, b] X.env = (false, eval a X.env) :: starEach [b] X.env := by rfl) (hs2 : starEach [b] X.env = (false, eval b X.env) :: starEach [] X.env := by rfl) (hpl : (backTo pos (starEach [b] X.env)).any (·.1) = false := by rfl) :
    PE X (.Call (.Name x p) [a, b] [] pos) (tE cls W (opD op fa fb)) := PE_imp (pe_callB hc hg hm hv (pa_cons ha (pa_cons hb pa_nil hs2) hs) hn hd hs hpl) (op2_of sp)
theorem pd_max2 {p : Pos} (hc : X.calm = true) (hm : X.mg "max" = none) (ha : PE X a (tE cls W fa)) (hb : PE X b (tE cls W fb)) (hg : Gl X "max" := by rfl) (hs : starEach [a, b] X.env = (false, eval a X.env) :: starEach [b] X.env := by rfl) (hs2 : starEach [b] X.env = (false, eval b X.env) :: starEach [] X.env := by rfl) (hpl : (backTo pos (starEach [b] X.env)).any (·.1) = false := by rfl) :
    PE X (.Call (.Name "max" p) [a, b] [] pos) (tE cls W (opD max2D fa fb)) :=
  pd_call2B (call_max2 hc) (fun B σ H S ρ g x y d v u Q e I rx ry k => by
    cases rx with
    | int i => cases ry with
      | int j => cases e; exact ⟨i, j, rfl, k _ H S I .refl (.int _)⟩
      | _ => cases e
    | _ => cases e) hm boot_max ha hb hg (by decide) (by decide) hs hs2 hpl
theorem pd_min2 {p : Pos} (hc : X.calm = true) (hm : X.mg "min" = none) (ha : PE X a (tE cls W fa)) (hb : PE X b (tE cls W fb)) (hg : Gl X "min" := by rfl) (hs : starEach [a, b] X.env = (false, eval a X.env) :: starEach [b] X.env := by rfl) (hs2 : starEach [b] X.env = (false, eval b X.env) :: starEach [] X.env := by rfl) (hpl : (backTo pos (starEach [b] X.env)).any (·.1) = false := by rfl) :
    PE X (.Call (.Name "min" p) [a, b] [] pos) (tE cls W (opD min2D fa fb)) :=
  pd_call2B (call_min2 hc) (fun B σ H S ρ g x y d v u Q e I rx ry k => by
    cases rx with
    | int i => cases ry with
      | int j => cases e; exact ⟨i, j, rfl, k _ H S I .refl (.int _)⟩
      | _ => cases e
    | _ => cases e) hm boot_min ha hb hg (by decide) (by decide) hs hs2 hpl
theorem c_isB : Cmp X .Is isBD := ⟨_, op_isBl, fun B σ H S ρ g x y d v u Q e I rx ry k => by
  cases rx with
  | bl i => cases ry with
    | bl j => cases e; exact ⟨i, j, rfl, rfl, k _ H S I .refl (.bl _)⟩
    | _ => cases e
  | _ => cases e⟩
theorem c_notB : Cmp X .IsNot notBD := ⟨_, op_notBl, fun B σ H S ρ g x y d v u Q e I rx ry k => by
  cases rx with
  | bl i => cases ry with
    | bl j => cases e; exact ⟨i, j, rfl, rfl, k _ H S I .refl (.bl _)⟩
    | _ => cases e
  | _ => cases e⟩
/-! ### an item of a list of one's own is set -/
def setIxS (i : Nat) (fk fv : Ex) : Sm := stE fv fun d ρ g => match fk ρ g with
  | .ok (.int k) g2 => (match ρ[i]? with
    | some (.ow (.lst ds)) => (match L2.ixN ds.length k with
      | some j => .nx (ρ.set i (.ow (.lst (ds.set j d)))) g2
      | none => .bad)
    | _ => .bad)
  | _ => .bad
theorem psd_setIx (i : Nat) {x : Str} {p pos' : Pos} (hk : PE X b (tE cls W fb)) (ha : PE X a (tE cls W fa)) (hN : X.N[i]? = some x := by rfl) (hv : Vis X.env.scope x := by first | exact Or.inl rfl | exact Or.inr (Or.inl rfl) | exact Or.inr (Or.inr rfl)) (hd : (x == ("__debug__" : Str)) = false := by decide) (hcd : (x == ("__classdict__" : Str)) = false := by decide)
    (h0 : ∀ v, assign (.Subscript (.Name x p) b pos') X.env v = (do
      let ov ← holding [v] (eval (.Name x p) X.env)
      let iv ← holding [v, ov] (eval b X.env)
      standAt pos'
      holding [v, ov, iv] (setItem ov iv v)
      release [v, ov, iv] []) := by intro _; rfl)
    (hs : swapsWithSole [.Subscript (.Name x p) b pos'] a pos.line X.env = pure false := by rfl) (hw : swappedStores [.Subscript (.Name x p) b pos'] a X.env = pure none := by rfl)
    (h1 : (assignEach [.Subscript (.Name x p) b pos'] X.env).map (·.2) = [assign (.Subscript (.Name x p) b pos') X.env] := by rfl) :
    PS X (.Assign [.Subscript (.Name x p) b pos'] a pos) (tS cls W (setIxS i fb fa)) :=
  PS_imp (ps_asg ha (pg_sub (pe_var hN hv hd hcd) hk set_list h0) hs hw h1) fun D σ H h => st_of h fun B S ρ g d v H1 I r q => by
    cases hi : ρ[i]? with
    | none => rw [hi] at q; cases ek : fb ρ g with
      | ok z g2 => rw [ek] at q; cases z <;> exact False.elim q
      | ex n g2 => rw [ek] at q; exact False.elim q
      | bad => rw [ek] at q; exact False.elim q
    | some z =>
      rw [hi] at q
      cases z with
      | ow o =>
        cases o with
        | lst ds =>
          obtain ⟨l, o, h1, h2, h3, h4, h5, h6⟩ := I.ow i _ hi
          cases h6 with
          | @lst _ vs rv =>
            refine ⟨.ref l, h1, B, S, ρ, g, I, ?_⟩
            cases ek : fb ρ g with
            | bad => rw [ek] at q; exact False.elim q
            | ex n g2 => rw [ek] at q; exact False.elim q
            | ok y g2 =>
              rw [ek] at q
              intro iv H2 S2 I2 e2 r2
              cases r2 with
              | int m =>
                simp only at q
                cases ej : L2.ixN ds.length m with
                | none => rw [ej] at q; exact False.elim q
                | some j =>
                  rw [ej] at q
                  have h5' := e2.keep l _ h5 h3
                  refine ⟨l, vs, m, j, rfl, rfl, h5', by rw [rv.length]; exact ej, ?_⟩
                  exact q _ _ _ (I2.mutO hi h1 (.lst ((rv.mono e2.base).set j (r.mono e2.base))) fun _ z => nomatch z) e2.base
              | _ => exact False.elim q
        | _ => cases ek : fb ρ g with
          | ok z g2 => rw [ek] at q; cases z <;> exact False.elim q
          | ex n g2 => rw [ek] at q; exact False.elim q
          | bad => rw [ek] at q; exact False.elim q
      | _ => cases ek : fb ρ g with
        | ok z g2 => rw [ek] at q; cases z <;> exact False.elim q
        | ex n g2 => rw [ek] at q; exact False.elim q
        | bad => rw [ek] at q; exact False.elim q
end
end DL

set_option Elab.async false
set_option linter.all false
set_option maxRecDepth 100000
set_option maxHeartbeats 400000
/-! The data layer, part 9: lists of lists of one's own. -/
namespace DL
open PySem PySem.Spec PyProof.Rows L2
section
variable {B : Bs} {σ : L2.St} {H S : Hp} {ρ : Nv} {g : G}
/-- a list of lists of one's own, and its rows, are changed -/
theorem Good.mutR (I : Good B σ H S ρ g) {i : Nat} {b : Ob} {a : Addr} {rows' : List (List PyData)} {cs' : List Addr} (hi : ρ[i]? = some (.ow b)) (ha : σ[i]? = some (some (.ref a))) (H' : Hp) (out : ∀ x, x ≠ a → x ∉ cs' → H' x = H x)
    (h1 : H' a = some (.lst (cs'.map V.ref))) (hl : cs'.length = rows'.length) (hd : cs'.Nodup) (hna : a ∉ cs') (hrow : ∀ (k : Nat) (c : Addr) (row : List PyData), cs'[k]? = some c → rows'[k]? = some row → ∃ vs, H' c = some (.lst vs) ∧ Rps S vs row)
    (hown : ∀ c ∈ cs', S c = none ∧ (B.live = true → c ≠ B.A) ∧ B.H c = none) (hoth : ∀ (j : Nat) (b : Ob) (a' : Addr), j ≠ i → ρ[j]? = some (.ow b) → σ[j]? = some (some (.ref a')) → a' ∉ cs')
    (hoth2 : ∀ (j : Nat) (rows2 : List (List PyData)) (a2 : Addr) (cs2 : List Addr), j ≠ i → ρ[j]? = some (.ow (.mat rows2)) → σ[j]? = some (some (.ref a2)) → H a2 = some (.lst (cs2.map V.ref)) → ∀ c ∈ cs2, c ∉ cs') : Good B σ H' S (ρ.set i (.ow (.mat rows'))) g := by
  obtain ⟨a0, o, q1, q2, q3, q4, q5, q6⟩ := I.ow i b hi
  have e := addr_of ha q1
  subst e
  have hlt : i < ρ.length := (List.getElem?_eq_some_iff.mp hi).1
  have key : ∀ (j : Nat) (z : Sl), (ρ.set i (.ow (.mat rows')))[j]? = some z → (j = i ∧ z = .ow (.mat rows')) ∨ (j ≠ i ∧ ρ[j]? = some z) := fun j z h => by
    by_cases hj : j = i
    · subst hj
      rw [List.getElem?_set_self hlt] at h
      exact .inl ⟨rfl, (Option.some.inj h).symm⟩
    · rw [List.getElem?_set_ne (Ne.symm hj)] at h
      exact .inr ⟨hj, h⟩
  have isow : ∀ (j : Nat) (c : Ob), (ρ.set i (.ow (.mat rows')))[j]? = some (.ow c) → ∃ c', ρ[j]? = some (.ow c') := fun j c h => by
    rcases key j _ h with ⟨rfl, _⟩ | ⟨_, h⟩
    · exact ⟨b, hi⟩
    · exact ⟨c, h⟩
  have stay : ∀ x, (S x ≠ none ∨ B.H x ≠ none ∨ (B.live = true ∧ x = B.A)) → H' x = H x := fun x h => by
    refine out x (fun z => ?_) fun z => ?_
    · subst z
      rcases h with h | h | ⟨h, h'⟩
      · exact h q2
      · exact h q4
      · exact q3 h h'
    · obtain ⟨k1, k2, k3⟩ := hown x z
      rcases h with h | h | ⟨h, h'⟩
      · exact h k1
      · exact h k3
      · exact k2 h h'
  have other : ∀ (j : Nat) (c : Ob) (x : Addr), j ≠ i → ρ[j]? = some (.ow c) → σ[j]? = some (some (.ref x)) → H' x = H x := fun j c x hj k1 k2 => out x (fun z => hj (I.ap j i c b a k1 hi (by rw [k2, z]) ha)) (hoth j c x hj k1 k2)
  refine ⟨⟨fun c o q => ?_, fun c o q n => ?_, I.base, I.new, fun c q => ?_, I.no, I.dr.mono (Same.refl _) fun hv => stay B.A (.inr (.inr ⟨hv, rfl⟩))⟩, by rw [List.length_set]; exact I.len, fun j d h => ?_, fun j h => ?_, fun j h => ?_, fun j c h => ?_, fun j l c d x k1 k2 k3 k4 => ?_, fun j rows x cs k1 k2 k3 => ?_⟩
  · rw [stay c (.inl (by rw [q]; simp))]; exact I.sub _ _ q
  · rw [stay c (.inr (.inl (by rw [q]; simp)))]; exact I.keep c o q n
  · rw [stay c (.inr (.inl q))]; exact I.there c q
  · rcases key j _ h with ⟨rfl, e⟩ | ⟨_, h⟩
    · cases e
    · exact I.sh j d h
  · rcases key j _ h with ⟨rfl, e⟩ | ⟨_, h⟩
    · cases e
    · exact I.dw j h
  · rcases key j _ h with ⟨rfl, e⟩ | ⟨_, h⟩
    · cases e
    · exact I.sw j h
  · rcases key j _ h with ⟨rfl, e⟩ | ⟨hj, h⟩
    · cases e
      exact ⟨a, _, ha, q2, q3, q4, h1, .mat hl⟩
    · obtain ⟨x, u, p1, p2, p3, p4, p5, p6⟩ := I.ow j c h
      exact ⟨x, u, p1, p2, p3, p4, by rw [other j c x hj h p1]; exact p5, p6⟩
  · obtain ⟨c', k1⟩ := isow j c k1
    obtain ⟨d', k2⟩ := isow l d k2
    exact I.ap j l c' d' x k1 k2 k3 k4
  · rcases key j _ k1 with ⟨ej, e⟩ | ⟨hj, m1⟩
    · subst ej
      injection e with e
      injection e with e
      subst e
      have ex := addr_of ha k2
      subst ex
      rw [h1] at k3
      injection k3 with k3
      injection k3 with k3
      have ec := refs_inj k3
      subst ec
      refine ⟨⟨hd, fun k c row e1 e2 => ?_⟩, fun l c y l1 l2 => ?_, fun l rows2 y cs2 hl2 l1 l2 l3 c hc hc2 => ?_⟩
      · obtain ⟨o1, o2, o3⟩ := hown c (List.mem_of_getElem? e1)
        exact ⟨o1, o2, o3, hrow k c row e1 e2⟩
      · by_cases hlj : l = j
        · subst hlj
          rw [← addr_of ha l2]; exact hna
        · rcases key l _ l1 with ⟨z, _⟩ | ⟨_, l1⟩
          · exact absurd z hlj
          · exact hoth l c y hlj l1 l2
      · rcases key l _ l1 with ⟨z, _⟩ | ⟨_, l1⟩
        · exact hl2 z
        · rw [other l _ y hl2 l1 l2] at l3
          exact hoth2 l rows2 y cs2 hl2 l1 l2 l3 c hc2 hc
    · rw [other j _ x hj m1 k2] at k3
      obtain ⟨R, A1, A2⟩ := I.mx j rows x cs m1 k2 k3
      refine ⟨R.move (Same.refl _) (fun c hc => out c (fun z => A1 i b a hi ha (by rw [← z]; exact hc)) (hoth2 j rows x cs hj m1 k2 k3 c hc)) (fun c hc => (R.row (I.rowsAt m1 k2 k3) hc).1), fun l c y l1 l2 => ?_, fun l rows2 y cs2 hlj l1 l2 l3 c hc => ?_⟩
      · obtain ⟨c', l1⟩ := isow l c l1
        exact A1 l c' y l1 l2
      · rcases key l _ l1 with ⟨z, e⟩ | ⟨hli, l1⟩
        · subst z
          have ex := addr_of ha l2
          subst ex
          rw [h1] at l3
          injection l3 with l3
          injection l3 with l3
          have ec := refs_inj l3
          subst ec
          exact hoth2 j rows x cs hj m1 k2 k3 c hc
        · rw [other l _ y hli l1 l2] at l3
          exact A2 l rows2 y cs2 hlj l1 l2 l3 c hc
/-- a new row behind the others -/
theorem Good.rowNew {H0 S0 : Hp} {g0 : G} (I0 : Good B σ H0 S0 ρ g0) (I : Good B σ H S ρ g) (gr : Gr B H0 S0 H S) {i : Nat} {rows : List (List PyData)} {xs : List PyData} {a c : Addr} {cs : List Addr} {vs : List V} (hi : ρ[i]? = some (.ow (.mat rows))) (ha : σ[i]? = some (some (.ref a))) (h1 : H a = some (.lst (cs.map V.ref)))
    (n1 : S c = none) (n2 : H0 c = none) (hc : H c = some (.lst vs)) (r : Rps S vs xs) : Good B σ (upd H a (.lst (cs.map V.ref ++ [V.ref c]))) S (ρ.set i (.ow (.mat (rows ++ [xs])))) g := by
  have hl := I.rowsAt hi ha h1
  obtain ⟨R, A1, A2⟩ := I.mx i rows a cs hi ha h1
  -- what was there is not c
  have was : ∀ x, H0 x ≠ none → x ≠ c := fun x h z => h (by rw [z]; exact n2)
  have ownH : ∀ (j : Nat) (b : Ob) (x : Addr), ρ[j]? = some (.ow b) → σ[j]? = some (some (.ref x)) → H0 x ≠ none ∧ H x = H0 x := fun j b x k1 k2 => by
    obtain ⟨x0, o, p1, p2, p3, p4, p5, p6⟩ := I0.ow j b k1
    have e := addr_of k2 p1
    subst e
    exact ⟨by rw [p5]; simp, by rw [p5]; exact gr.keep x o p5 p3⟩
  have matH : ∀ (j : Nat) (rows2 : List (List PyData)) (x : Addr) (cs2 : List Addr), ρ[j]? = some (.ow (.mat rows2)) → σ[j]? = some (some (.ref x)) → H x = some (.lst (cs2.map V.ref)) → ∀ y ∈ cs2, y ≠ c := fun j rows2 x cs2 k1 k2 k3 y hy => by
    rw [(ownH j _ x k1 k2).2] at k3
    exact was y ((I0.mx j rows2 x cs2 k1 k2 k3).1.row (I0.rowsAt k1 k2 k3) hy).2.2.2
  have hac : a ≠ c := was a (ownH i _ a hi ha).1
  have hoc : S c = none ∧ (B.live = true → c ≠ B.A) ∧ B.H c = none := ⟨n1, fun hv z => I0.neA n2 hv z.symm, by
    cases q : B.H c with
    | none => rfl
    | some u => exact absurd n2 (I0.there c (by rw [q]; simp))⟩
  refine I.mutR hi ha (cs' := cs ++ [c]) _ (fun x hx _ => upd_ne hx) (by rw [upd_same, List.map_append]; rfl) (by rw [List.length_append, List.length_append, hl]; rfl) ?_ ?_ ?_ ?_ ?_ ?_
  · rw [List.nodup_append]
    exact ⟨R.nd, by simp, fun x hx y hy => by rw [List.mem_singleton.mp hy]; exact matH i rows a cs hi ha h1 x hx⟩
  · intro z
    rcases List.mem_append.mp z with z | z
    · exact A1 i _ a hi ha z
    · exact hac (List.mem_singleton.mp z)
  · intro k x row e1 e2
    by_cases hk : k < cs.length
    · rw [List.getElem?_append_left hk] at e1
      rw [List.getElem?_append_left (by omega)] at e2
      obtain ⟨_, _, _, ws, w1, w2⟩ := R.at_ k x row e1 e2
      have hx : x ≠ a := fun z => A1 i _ a hi ha (by rw [← z]; exact List.mem_of_getElem? e1)
      exact ⟨ws, by rw [upd_ne hx]; exact w1, w2⟩
    · rw [List.getElem?_append_right (by omega)] at e1
      rw [List.getElem?_append_right (by omega)] at e2
      obtain rfl := List.mem_singleton.mp (List.mem_of_getElem? e1)
      obtain rfl := List.mem_singleton.mp (List.mem_of_getElem? e2)
      exact ⟨vs, by rw [upd_ne (Ne.symm hac)]; exact hc, r⟩
  · intro x hx
    rcases List.mem_append.mp hx with z | z
    · obtain ⟨k1, k2, k3, _⟩ := R.row hl z
      exact ⟨k1, k2, k3⟩
    · rw [List.mem_singleton.mp z]; exact hoc
  · intro j b x hj k1 k2 z
    rcases List.mem_append.mp z with z | z
    · exact A1 j b x k1 k2 z
    · exact was x (ownH j b x k1 k2).1 (List.mem_singleton.mp z)
  · intro j rows2 x cs2 hj k1 k2 k3 y hy z
    rcases List.mem_append.mp z with z | z
    · exact A2 j rows2 x cs2 hj k1 k2 k3 y z hy
    · exact matH j rows2 x cs2 k1 k2 k3 y hy (List.mem_singleton.mp z)
/-- a cell of a row -/
theorem Good.cell (I : Good B σ H S ρ g) {i k : Nat} {rows : List (List PyData)} {row' : List PyData} {a c : Addr} {cs : List Addr} {vs' : List V} (hi : ρ[i]? = some (.ow (.mat rows))) (ha : σ[i]? = some (some (.ref a))) (h1 : H a = some (.lst (cs.map V.ref)))
    (hk : cs[k]? = some c) (r : Rps S vs' row') : Good B σ (upd H c (.lst vs')) S (ρ.set i (.ow (.mat (rows.set k row')))) g := by
  have hl := I.rowsAt hi ha h1
  obtain ⟨R, A1, A2⟩ := I.mx i rows a cs hi ha h1
  have hcm : c ∈ cs := List.mem_of_getElem? hk
  have hac : a ≠ c := fun z => A1 i _ a hi ha (by rw [z]; exact hcm)
  refine I.mutR hi ha (cs' := cs) _ (fun x _ hx => upd_ne fun z => hx (by rw [z]; exact hcm)) (by rw [upd_ne hac]; exact h1) (by rw [List.length_set]; exact hl) R.nd (A1 i _ a hi ha) (fun m x row e1 e2 => ?_) (fun x hx => ?_) (fun j b x _ k1 k2 => A1 j b x k1 k2) fun j rows2 x cs2 hj k1 k2 k3 y hy z => A2 j rows2 x cs2 hj k1 k2 k3 y z hy
  · by_cases hm : m = k
    · subst hm
      rw [hk] at e1
      cases e1
      rw [List.getElem?_set_self (by have := (List.getElem?_eq_some_iff.mp hk).1; omega)] at e2
      cases e2
      exact ⟨vs', upd_same, r⟩
    · rw [List.getElem?_set_ne (Ne.symm hm)] at e2
      obtain ⟨_, _, _, ws, w1, w2⟩ := R.at_ m x row e1 e2
      have hx : x ≠ c := fun z => by
        subst z
        have i1 := (List.getElem?_eq_some_iff.mp hk)
        have i2 := (List.getElem?_eq_some_iff.mp e1)
        exact hm ((List.getElem?_inj (List.getElem?_eq_some_iff.mp e1).1 R.nd).mp (e1.trans hk.symm))
      exact ⟨ws, by rw [upd_ne hx]; exact w1, w2⟩
  · obtain ⟨k1, k2, k3, _⟩ := R.row hl hx
    exact ⟨k1, k2, k3⟩
/-- an empty list as an empty list of lists -/
theorem Good.asMat (I : Good B σ H S ρ g) {i : Nat} (hi : ρ[i]? = some (.ow (.lst []))) : Good B σ H S (ρ.set i (.ow (.mat []))) g := by
  obtain ⟨a, o, q1, q2, q3, q4, q5, q6⟩ := I.ow i _ hi
  cases q6 with
  | @lst _ vs r =>
    cases r with
    | nil => exact I.mutR hi q1 (cs' := []) H (fun _ _ _ => rfl) q5 rfl List.nodup_nil (by simp) (fun k c row e1 _ => by simp at e1) (fun c hc => by cases hc) (fun _ _ _ _ _ _ z => by cases z) fun _ _ _ _ _ _ _ _ _ _ z => by cases z
end
section
variable {X : Cx} {cls : Nat → Value} {W : WX} {pos : Pos} {a b b2 c e : Expr} {fa fb fb2 fc : Ex} {D : Ends} {σ : L2.St} {H : Hp} {st : Stmt} {rest : List Stmt} {k : Nat}
/-- x.append(a new list), x a list of lists of one's own -/
def rowS (i : Nat) (f : Ow) : Sm := fun ρ g => match f ρ g with
  | .ok (.lst xs) g1 => (match ρ[i]? with
    | some (.ow (.mat rows)) => if rows.length < big then .nx (ρ.set i (.ow (.mat (rows ++ [xs])))) g1 else .bad
    | some (.ow (.lst [])) => .nx (ρ.set i (.ow (.mat [xs]))) g1
    | _ => .bad)
  | _ => .bad
theorem big_lt' {n : Nat} (h : n < big) : n < sizeLine := by
  rw [sizeLine_eq]
  unfold big at h
  omega
theorem psd_row (i : Nat) {x : Str} {p apos cpos : Pos} {fo : Ow} (ha : PE X a (tO cls W fo)) (hN : X.N[i]? = some x := by rfl) (hv : Vis X.env.scope x := by first | exact Or.inl rfl | exact Or.inr (Or.inl rfl) | exact Or.inr (Or.inr rfl)) (hd : (x == ("__debug__" : Str)) = false := by decide) (hcd : (x == ("__classdict__" : Str)) = false := by decide)
    (hb : attributeBase (.Name x p) "append" X.env (eval (.Name x p) X.env) = eval (.Name x p) X.env := by rfl)
    (hz : (((((backTo cpos (starEach (a :: []) X.env)).all fun x => !x.1) && (backToKw cpos (keywordEach [] X.env)).all fun x => x.1.isSome) && decide (((a :: ([] : List Expr)).length + ([] : List Keyword).length + if ([] : List Keyword).isEmpty = true then 0 else 1) < 30)) = true) := by rfl)
    (hl : (apos.endLine == cpos.line) = true := by rfl) (hs : starEach [a] X.env = (false, eval a X.env) :: starEach [] X.env := by rfl) (hpl : ((backTo cpos (starEach [] X.env)).any fun x => x.1) = false := by rfl)
    (hsw : swapsWith (.Call (.Attribute (.Name x p) "append" apos) [a] [] cpos) none pos.line X.env = pure false := by rfl) :
    PS X (.Expr (.Call (.Attribute (.Name x p) "append" apos) [a] [] cpos) pos) (tS cls W (rowS i fo)) :=
  PS_imp (ps_expr (pe_bm PySem.F.plainAttrs_list PySem.F.slot_list_append PySem.F.type_list_append mt_append (pe_var hN hv hd hcd) (pa_cons ha pa_nil hs) hb hz hl hs hpl) hsw) fun D σ H ⟨B, S, ρ, g, I, h⟩ => by
    unfold rowS at h
    cases ef : fo ρ g with
    | bad => rw [ef] at h; exact False.elim h
    | ex n g1 => rw [ef] at h; exact False.elim h
    | ok y g1 =>
      rw [ef] at h
      cases y with
      | lst xs =>
        simp only at h
        split at h
        · rename_i rows hi
          by_cases hb : rows.length < big
          · rw [if_pos hb] at h
            obtain ⟨l, cs, h1, h2, h3, h4, h5, h6, R⟩ := I.rows hi
            refine ⟨.ref l, h1, .inl ⟨rfl, _, .of h2⟩, B, S, ρ, g, I, ?_⟩
            rw [ef]
            intro c o H1 S1 I1 e1 n1 n2 ho r
            cases r with
            | @lst _ vs r =>
              have k2 := e1.keep l _ h2 h5
              exact ⟨l, _, .ref c, rfl, rfl, k2, by rw [List.length_map, h3]; exact big_lt' hb, h _ _ _ (I.rowNew I1 e1 hi h1 k2 n1 n2 ho r) e1.base⟩
          · rw [if_neg hb] at h; exact False.elim h
        · rename_i hi
          obtain ⟨l, o, h1, h2, h3, h4, h5, h6⟩ := I.ow i _ hi
          cases h6 with
          | @lst _ vs r0 =>
            cases r0 with
            | nil =>
              refine ⟨.ref l, h1, .inl ⟨rfl, _, .of h5⟩, B, S, ρ, g, I, ?_⟩
              rw [ef]
              intro c o H1 S1 I1 e1 n1 n2 ho r
              cases r with
              | @lst _ ws r =>
                have hlt : i < ρ.length := (List.getElem?_eq_some_iff.mp hi).1
                have k2 := e1.keep l _ h5 h3
                have q := (I.asMat hi).rowNew (I1.asMat hi) e1 (rows := []) (cs := []) (List.getElem?_set_self hlt) h1 k2 n1 n2 ho r
                rw [List.set_set] at q
                exact ⟨l, _, .ref c, rfl, rfl, k2, by rw [sizeLine_eq]; exact (by decide), h _ _ _ q e1.base⟩
        · exact False.elim h
      | _ => exact False.elim h
/-- x[e1][e2] = e3, x a list of lists of one's own -/
def cellS (i : Nat) (f1 f2 fv : Ex) : Sm := stE fv fun d ρ g => match f1 ρ g with
  | .ok (.int k1) g1 => (match f2 ρ g1 with
    | .ok (.int k2) g2 => (match ρ[i]? with
      | some (.ow (.mat rows)) => (match L2.ixN rows.length k1 with
        | some j => (match rows[j]? with
          | some row => (match L2.ixN row.length k2 with
            | some m => .nx (ρ.set i (.ow (.mat (rows.set j (row.set m d))))) g2
            | none => .bad)
          | none => .bad)
        | none => .bad)
      | _ => .bad)
    | _ => .bad)
  | _ => .bad
theorem psd_cell (i : Nat) {x : Str} {p pos' pos2 : Pos} (hk : PE X b (tE cls W fb)) (hk2 : PE X b2 (tE cls W fb2)) (ha : PE X a (tE cls W fa)) (hN : X.N[i]? = some x := by rfl) (hv : Vis X.env.scope x := by first | exact Or.inl rfl | exact Or.inr (Or.inl rfl) | exact Or.inr (Or.inr rfl)) (hd : (x == ("__debug__" : Str)) = false := by decide) (hcd : (x == ("__classdict__" : Str)) = false := by decide)
    (h0 : ∀ v, assign (.Subscript (.Subscript (.Name x p) b pos2) b2 pos') X.env v = (do
      let ov ← holding [v] (eval (.Subscript (.Name x p) b pos2) X.env)
      let iv ← holding [v, ov] (eval b2 X.env)
      standAt pos'
      holding [v, ov, iv] (setItem ov iv v)
      release [v, ov, iv] []) := by intro _; rfl)
    (hs : swapsWithSole [.Subscript (.Subscript (.Name x p) b pos2) b2 pos'] a pos.line X.env = pure false := by rfl) (hw : swappedStores [.Subscript (.Subscript (.Name x p) b pos2) b2 pos'] a X.env = pure none := by rfl)
    (h1 : (assignEach [.Subscript (.Subscript (.Name x p) b pos2) b2 pos'] X.env).map (·.2) = [assign (.Subscript (.Subscript (.Name x p) b pos2) b2 pos') X.env] := by rfl) (hpl : PlainIx b := by exact fun _ _ => rfl) :
    PS X (.Assign [.Subscript (.Subscript (.Name x p) b pos2) b2 pos'] a pos) (tS cls W (cellS i fb fb2 fa)) :=
  PS_imp (ps_asg ha (pg_sub (pe_ix ix_list (pe_var hN hv hd hcd) hk hpl) hk2 set_list h0) hs hw h1) fun D σ H h => st_of h fun B S ρ g d v H1 I r q => by
    split at q
    · rename_i k1 g1 e1
      split at q
      · rename_i k2 g2 e2
        split at q
        · rename_i rows hi
          split at q
          · rename_i j ej
            split at q
            · rename_i row er
              split at q
              · rename_i m em
                obtain ⟨l, cs, h1, h2, h3, h4, h5, h6, R⟩ := I.rows hi
                refine ⟨.ref l, h1, B, S, ρ, g, I, ?_⟩
                rw [e1]
                intro iv H2 S2 I2 gr2 r2
                cases r2 with
                | int _ =>
                  have k2' := gr2.keep l _ h2 h5
                  obtain ⟨R2, _⟩ := I2.mx i rows l cs hi h1 k2'
                  have hj : j < cs.length := by rw [h3]; exact (List.getElem?_eq_some_iff.mp er).1
                  obtain ⟨o1, o2, o3, vs, o4, o5⟩ := R2.at_ j cs[j] row (List.getElem?_eq_getElem hj) er
                  refine ⟨l, _, k1, .ref cs[j], rfl, rfl, .of k2', ?_, B, S2, ρ, g1, I2, ?_⟩
                  · unfold L2.atI
                    rw [List.length_map, h3, ej]
                    show (cs.map V.ref)[j]? = _
                    rw [List.getElem?_map, List.getElem?_eq_getElem hj]
                    rfl
                  · rw [e2]
                    intro iv3 H3 S3 I3 gr3 r3
                    cases r3 with
                    | int _ =>
                      have k3' := gr3.keep l _ k2' h5
                      have o4' := gr3.keep cs[j] _ o4 o2
                      refine ⟨cs[j], vs, k2, m, rfl, rfl, o4', by rw [o5.length]; exact em, ?_⟩
                      exact q _ _ _ (I3.cell hi h1 k3' (List.getElem?_eq_getElem hj) ((o5.mono gr3.base).set m (r.mono (gr2.base.trans gr3.base)))) (gr2.base.trans gr3.base)
              · exact False.elim q
            · exact False.elim q
          · exact False.elim q
        · exact False.elim q
      · exact False.elim q
    · exact False.elim q
end
end DL

set_option Elab.async false
set_option linter.all false
set_option maxRecDepth 100000
set_option maxHeartbeats 400000
/-! The data layer, part 10: xs[e] of a list of one's own, [..] * n of one's own, list(range(n)), xs.index(truth value). -/
namespace DL
open PySem PySem.Spec PyProof.Rows L2
section
variable {X : Cx} {cls : Nat → Value} {W : WX} {pos : Pos} {a b c e : Expr} {fa fb fc : Ex} {D : Ends} {σ : L2.St} {H : Hp} {k : Nat}
/-- x[e], x a list of one's own: an item of it is a datum -/
def ixO (i : Nat) (f : Ex) : Ex := fun ρ g => match ρ[i]? with
  | some (.ow (.lst ds)) => (f ρ g).bind fun d g1 => match d with
    | .int k => ofO (L2.atI ds k) g1
    | _ => .bad
  | _ => .bad
theorem pd_ixO (i : Nat) {x : Str} {p : Pos} (hb : PE X b (tE cls W fb)) (hN : X.N[i]? = some x := by rfl) (hv : Vis X.env.scope x := by first | exact Or.inl rfl | exact Or.inr (Or.inl rfl) | exact Or.inr (Or.inr rfl)) (hd : (x == ("__debug__" : Str)) = false := by decide) (hcd : (x == ("__classdict__" : Str)) = false := by decide) (hs : PlainIx b := by exact fun _ _ => rfl) :
    PE X (.Subscript (.Name x p) b pos) (tE cls W (ixO i fb)) :=
  PE_imp (pe_ix ix_list (pe_var hN hv hd hcd) hb hs) fun σ H Q ⟨B, S, ρ, g, I, h⟩ => by
    unfold ixO at h
    split at h
    · rename_i ds hi
      obtain ⟨l, o, h1, h2, h3, h4, h5, h6⟩ := I.ow i _ hi
      cases h6 with
      | @lst _ vs r0 =>
        refine ⟨.ref l, h1, B, S, ρ, g, I, ?_⟩
        cases eb : fb ρ g with
        | bad => rw [eb] at h; exact h
        | ex n g1 => rw [eb] at h; exact h
        | ok d g1 =>
          rw [eb] at h
          intro u H1 S1 I1 e1 r1
          simp only [R.bind_ok] at h
          cases r1 with
          | int m =>
            simp only at h
            cases ej : L2.atI ds m with
            | none => rw [ej] at h; exact False.elim h
            | some d =>
              rw [ej] at h
              have r0' := r0.mono e1.base
              unfold L2.atI at ej
              cases en : L2.ixN ds.length m with
              | none => rw [en] at ej; cases ej
              | some j =>
                rw [en] at ej
                obtain ⟨v, k1, k2⟩ := r0'.getD (i := j) (d := d) ej
                refine ⟨l, vs, m, v, rfl, rfl, .of (e1.keep l _ h5 h3), ?_, h v H1 S1 I1 e1 k2⟩
                unfold L2.atI
                rw [r0.length, en]
                exact k1
          | _ => exact False.elim h
    · exact False.elim h
/-- [..] * n, a new list -/
def mulO (fa fb : Ex) : Ow := fun ρ g => (fa ρ g).bind fun x g1 => (fb ρ g1).bind fun y g2 => match x, y with
  | .list ds, .int j => if -1000000 ≤ j ∧ j ≤ 1000000 ∧ ds.length * j.toNat ≤ big then .ok (.lst (List.replicate j.toNat ds).flatten) g2 else .bad
  | _, _ => .bad
theorem po_mul (ha : PE X a (tE cls W fa)) (hb : PE X b (tE cls W fb)) : PE X (.BinOp a .Mult b pos) (tO cls W (mulO fa fb)) :=
  PE_imp (pe_op op_mulA ha hb) fun σ H Q ⟨B, S, ρ, g, I, h⟩ => by
    unfold mulO at h
    refine ⟨B, S, ρ, g, I, ?_⟩
    cases ea : fa ρ g with
    | bad => rw [ea] at h; exact h
    | ex n g1 => rw [ea] at h; exact h
    | ok x g1 =>
      rw [ea] at h
      intro v H1 S1 I1 e1 r1
      refine ⟨B, S1, ρ, g1, I1, ?_⟩
      simp only [R.bind_ok] at h
      cases eb : fb ρ g1 with
      | bad => rw [eb] at h; exact h
      | ex n g2 => rw [eb] at h; exact fun H' S' I' e' => h H' S' I' (e1.trans e')
      | ok y g2 =>
        rw [eb] at h
        intro u H2 S2 I2 e2 r2
        simp only [R.bind_ok] at h
        cases r1 with
        | @lst l xs ds hx qx =>
          cases r2 with
          | int j =>
            simp only at h
            by_cases hz : -1000000 ≤ j ∧ j ≤ 1000000 ∧ ds.length * j.toNat ≤ big
            · rw [if_pos hz] at h
              refine .inr (.inr ⟨l, j, xs, rfl, rfl, I2.sub _ _ (e2.base _ _ hx), by omega, by omega, big_line (by rw [qx.length]; exact hz.2.2), fun p hp => ?_⟩)
              obtain ⟨I3, e3⟩ := I2.allocO (o := .lst (List.replicate j.toNat xs).flatten) hp
              have e13 := (e1.trans e2).trans e3
              exact h p _ _ S2 I3 e13 (I2.stay hp) (none_back (e1.trans e2) hp) upd_same (.lst ((qx.mono e2.base).flatten _))
            · rw [if_neg hz] at h; exact False.elim h
          | _ => exact False.elim h
        | _ => exact False.elim h
/-- list(range(n)) -/
def listRgD : PyData → Option PyData
  | .int n => if n ≤ (big : Int) ∧ -(big : Int) ≤ n then some (.list (upFrom 0 n.toNat)) else none
  | _ => none
theorem rg_up (S : Hp) (n : Int) : Rps S (rgV 0 n) (upFrom 0 n.toNat) := by
  refine Rps.of_get (by unfold rgV upFrom; rw [List.length_map, List.length_map, List.length_range, List.length_range]; omega) fun k v d h1 h2 => ?_
  unfold rgV at h1
  unfold upFrom at h2
  rw [List.getElem?_map] at h1 h2
  obtain ⟨i, hi, rfl⟩ := Option.map_eq_some_iff.mp h1
  obtain ⟨j, hj, rfl⟩ := Option.map_eq_some_iff.mp h2
  have e1 := (List.getElem?_eq_some_iff.mp hi).2
  have e2 := (List.getElem?_eq_some_iff.mp hj).2
  rw [List.getElem_range] at e1 e2
  subst e1 e2
  exact .int _
theorem pd_listRg {p p2 pos2 : Pos} (hc : X.calm = true) (hm : X.mg "list" = none) (hm2 : X.mg "range" = none) (ha : PE X a (tE cls W fa)) (hg : Gl X "list" := by rfl) (hg2 : Gl X "range" := by rfl)
    (na : starEach [a] X.env = (false, eval a X.env) :: starEach [] X.env := by rfl) (na2 : starEach [Expr.Call (.Name "range" p2) [a] [] pos2] X.env = (false, eval (Expr.Call (.Name "range" p2) [a] [] pos2) X.env) :: starEach [] X.env := by rfl) :
    PE X (.Call (.Name "list" p) [.Call (.Name "range" p2) [a] [] pos2] [] pos) (tE cls W (unD listRgD fa)) :=
  PE_imp (pe_listRg hc hg hm (prg_1 hg2 hm2 ha na) na2) fun σ H Q h => un_of (r := fun x H1 Q => ∃ n, x = .int n ∧ RgOk 0 n ∧ ∀ q, H1 q = none → Q (.ref q) (upd H1 q (.lst (rgV 0 n)))) (fun B σ H S ρ g x d v Q e I r k => by
    cases r with
    | int n =>
      unfold listRgD at e
      by_cases hz : n ≤ (big : Int) ∧ -(big : Int) ≤ n
      · simp only [if_pos hz] at e
        cases e
        unfold big at hz
        refine ⟨n, rfl, ⟨by omega, by omega, by omega, by omega, by omega⟩, fun q hq => ?_⟩
        obtain ⟨I2, e2⟩ := I.alloc (o := .lst (rgV 0 n)) hq
        exact k _ _ _ I2 e2 (.lst upd_same (rg_up _ n))
      · simp only [if_neg hz] at e; cases e
    | _ => cases e) σ H Q h
/-- xs.index(a truth value), xs a list of truth values -/
def boolsD : List PyData → Option (List Bool)
  | [] => some []
  | .bool b :: ds => (boolsD ds).map (b :: ·)
  | _ :: _ => none
theorem boolsD_eq : ∀ {ds : List PyData} {bs : List Bool}, boolsD ds = some bs → ds = bs.map PyData.bool
  | [], bs, e => by cases e; rfl
  | d :: ds, bs, e => by
    cases d with
    | bool b =>
      simp only [boolsD] at e
      obtain ⟨r, hr, rfl⟩ := Option.map_eq_some_iff.mp e
      rw [boolsD_eq hr]; rfl
    | _ => cases e
theorem boolsD_map : ∀ bs : List Bool, boolsD (bs.map PyData.bool) = some bs
  | [] => rfl
  | b :: r => by simp [boolsD, boolsD_map r]
theorem Rps.bools {S : Hp} : ∀ {bs : List Bool} {vs : List V}, Rps S vs (bs.map PyData.bool) → vs = bs.map V.bl
  | [], _, .nil => rfl
  | b :: bs, _, .cons r t => by cases r; rw [Rps.bools t]; rfl
def indexD : PyData → PyData → Option PyData
  | .list ds, .bool b => (boolsD ds).bind fun bs => if b ∈ bs then some (.int (bs.findIdx (· == b))) else none
  | _, _ => none
@[simp] def indexE (fa fb : Ex) : Ex := fun ρ g => (fa ρ g).bind fun x g1 => match x with
  | .list ds => (fb ρ g1).bind fun y g2 => ofO (indexD (.list ds) y) g2
  | _ => .bad
theorem pd_index {o : Expr} {apos cpos : Pos} (ho : PE X o (tE cls W fa)) (he : PE X e (tE cls W fb)) (hbase : attributeBase o "index" X.env (eval o X.env) = eval o X.env := by rfl)
    (hfew : ((backTo cpos (starEach (e :: []) X.env)).all (fun x => !x.1) && (backToKw cpos (keywordEach [] X.env)).all (fun x => x.1.isSome)
      && decide ((e :: ([] : List Expr)).length + ([] : List Keyword).length + (if ([] : List Keyword).isEmpty then 0 else 1) < 30)) = true := by rfl)
    (hline : (apos.endLine == cpos.line) = true := by rfl) (hs : starEach (e :: []) X.env = (false, eval e X.env) :: starEach [] X.env := by rfl) (hplain : (backTo cpos (starEach [] X.env)).any (·.1) = false := by rfl) :
    PE X (.Call (.Attribute o "index" apos) (e :: []) [] cpos) (tE cls W (indexE fa fb)) :=
  PE_imp (pe_bm PySem.F.plainAttrs_list PySem.F.slot_list_index PySem.F.type_list_index mt_index ho (pa_cons he pa_nil hs) hbase hfew hline hs hplain) fun σ H Q ⟨B, S, ρ, g, I, h⟩ => by
    unfold indexE at h
    refine ⟨B, S, ρ, g, I, ?_⟩
    cases ea : fa ρ g with
    | bad => rw [ea] at h; exact h
    | ex n g1 => rw [ea] at h; exact h
    | ok x g1 =>
      rw [ea] at h
      simp only [R.bind_ok] at h
      intro v H1 S1 I1 e1 r1
      cases r1 with
      | @lst l xs ds hx qx =>
        refine ⟨.inl ⟨rfl, xs, .of (I1.sub _ _ hx)⟩, B, S1, ρ, g1, I1, ?_⟩
        cases eb : fb ρ g1 with
        | bad => rw [eb] at h; exact h
        | ex n g2 => rw [eb] at h; exact fun H' S' I' e' => h H' S' I' (e1.trans e')
        | ok y g2 =>
          rw [eb] at h
          simp only [R.bind_ok] at h
          intro u H2 S2 I2 e2 r2
          cases r2 with
          | bl b =>
            unfold indexD at h
            simp only at h
            cases hb : boolsD ds with
            | none => rw [hb] at h; exact False.elim h
            | some bs =>
              rw [hb] at h
              simp only [Option.bind_some] at h
              by_cases hm : b ∈ bs
              · rw [if_pos hm] at h
                rw [boolsD_eq hb] at qx
                have ex := qx.bools
                subst ex
                have hlt : bs.findIdx (· == b) < bs.length := List.findIdx_lt_length_of_exists ⟨b, hm, by simp⟩
                refine ⟨l, _, .bl b, bs.findIdx (· == b), .bl bs[bs.findIdx (· == b)], rfl, rfl, .of (I2.sub _ _ (e2.base _ _ hx)), rfl, ?_, ?_, ?_, ?_, ?_⟩
                · rw [List.all_eq_true]
                  intro z hz
                  obtain ⟨y, _, rfl⟩ := List.mem_map.mp hz
                  rfl
                · rw [List.getElem?_map, List.getElem?_eq_getElem hlt]; rfl
                · have := List.findIdx_getElem (w := hlt)
                  exact this
                · intro m z' hm' hz
                  rw [List.getElem?_map] at hz
                  obtain ⟨y, hy, rfl⟩ := Option.map_eq_some_iff.mp hz
                  have := List.not_of_lt_findIdx hm'
                  rw [(List.getElem?_eq_some_iff.mp hy).2] at this
                  exact this
                · exact h _ H2 S2 I2 (e1.trans e2) (.int _)
              · rw [if_neg hm] at h; exact False.elim h
          | _ => exact False.elim h
      | _ => exact False.elim h
/-- a test A if c else B -/
@[simp] def ifT (t a b : Te) : Te := fun ρ g => (t ρ g).bind fun k g1 => if k = true then a ρ g1 else b ρ g1
theorem pwd_ifx {c a b : Expr} {fc fa fb : Te} (hc : PT X c (tT cls W fc)) (ha : PT X a (tT cls W fa)) (hb : PT X b (tT cls W fb)) : PW X (.IfExp c a b pos) (tT cls W (ifT fc fa fb)) := by
  refine ⟨fun wh pins s σ H Q I h => ?_⟩
  obtain ⟨B, S, ρ, g, I0, h⟩ := h
  unfold ifT at h
  refine PyProof.Rows.isTrue_IfExp ?_
  refine thn (hc.run pins s σ H (fun k H1 => if k = true then tT cls W fa σ H1 Q else tT cls W fb σ H1 Q) I ⟨B, S, ρ, g, I0, ?_⟩) fun k s1 ⟨H1, I1, q1⟩ => ?_
  · cases ec : fc ρ g with
    | bad => rw [ec] at h; exact h
    | ex n g1 => rw [ec] at h; exact h
    | ok k g1 =>
      rw [ec] at h
      simp only [R.bind_ok] at h
      intro H1 S1 I1 e1
      cases k with
      | true => exact ⟨B, S1, ρ, g1, I1, TO_gr e1 h⟩
      | false => exact ⟨B, S1, ρ, g1, I1, TO_gr e1 h⟩
  · cases k with
    | true => exact ha.run pins s1 σ H1 Q I1 q1
    | false => exact hb.run pins s1 σ H1 Q I1 q1
end
end DL

set_option Elab.async false
set_option linter.all false
set_option maxRecDepth 100000
set_option maxHeartbeats 400000
/-! The data layer, part 11: lists of new lists, made at once. -/
namespace DL
open PySem PySem.Spec PyProof.Rows L2
section
variable {B : Bs} {σ : L2.St} {H S : Hp} {ρ : Nv} {g : G}
/-- what nobody holds may be changed -/
theorem Good.updD {H0 S0 : Hp} {g0 : G} (I0 : Good B σ H0 S0 ρ g0) (I : Good B σ H S ρ g) {D : Addr} (o' : HO) (nD : H0 D = none) (sD : S D = none) (keepO : ∀ a o, H0 a = some o → (B.live = true → a ≠ B.A) → H a = some o) : Good B σ (upd H D o') S ρ g := by
  refine ⟨⟨fun a o q => ?_, fun a o q n => ?_, I.base, I.new, fun a q => ?_, I.no, ?_⟩, I.len, I.sh, I.dw, I.sw, fun j b q => ?_, I.ap, I.mxMove (Same.refl _) (fun i b h => ⟨⟨b, h⟩, rfl⟩) (fun i rows h => h) (fun j rows a' q k => ?_) fun j rows a' cs _ q k k3 x hx => ?_⟩
  · rw [upd_ne (ne_of_none q sD)]; exact I.sub _ _ q
  · have hB : B.H D = none := by
      cases z : B.H D with
      | none => rfl
      | some u => exact absurd nD (I0.there D (by rw [z]; simp))
    rw [upd_ne (ne_of_none q hB)]; exact I.keep a o q n
  · by_cases ha : a = D
    · subst ha; rw [upd_same]; simp
    · rw [upd_ne ha]; exact I.there a q
  · exact I.dr.mono (Same.refl _) fun hl => upd_ne (fun z => I0.neA nD hl z)
  · obtain ⟨a, o, h1, h2, h4, h5, h6, h7⟩ := I.ow j b q
    obtain ⟨a', o2, k1, _, _, _, k5, _⟩ := I0.ow j b q
    have ea := addr_of h1 k1
    subst ea
    have hne : a ≠ D := fun z => by rw [z, nD] at k5; cases k5
    exact ⟨a, o, h1, h2, h4, h5, by rw [upd_ne hne]; exact h6, h7⟩
  · obtain ⟨a0, o, k1, _, _, _, k5, _⟩ := I0.ow j _ q
    have ea := addr_of k k1
    subst ea
    have hne : a' ≠ D := fun z => by rw [z, nD] at k5; cases k5
    exact upd_ne hne
  · have g7 := (I.mx j rows a' cs q k k3).1.row (I.rowsAt q k k3) hx
    have hne : x ≠ D := fun z => by
      subst z
      obtain ⟨a0, o0, l1, _, l3, _, l5, _⟩ := I0.ow j _ q
      have ea := addr_of k l1
      subst ea
      have l6 := keepO a' o0 l5 l3
      rw [k3] at l6
      rw [← l6] at l5
      exact ((I0.mx j rows a' cs q k l5).1.row (I0.rowsAt q k l5) hx).2.2.2 nD
    exact ⟨upd_ne hne, g7.1⟩
/-- the rows made so far -/
structure RowsM (H1 : Hp) (D : Addr) (H S : Hp) (cs : List Addr) (rows : List (List PyData)) : Prop where
  len : cs.length = rows.length
  nd : cs.Nodup
  fr : ∀ c ∈ cs, H1 c = none ∧ c ≠ D
  at_ : ∀ (k : Nat) (c : Addr) (row : List PyData), cs[k]? = some c → rows[k]? = some row → S c = none ∧ ∃ ws, H c = some (.lst ws) ∧ Rps S ws row
theorem RowsM.row {H1 : Hp} {D : Addr} {cs : List Addr} {rows : List (List PyData)} (R : RowsM H1 D H S cs rows) {c : Addr} (hc : c ∈ cs) : S c = none ∧ ∃ ws, H c = some (.lst ws) := by
  obtain ⟨k, hk, rfl⟩ := List.getElem_of_mem hc
  have hk2 : k < rows.length := by rw [← R.len]; exact hk
  obtain ⟨h1, ws, h2, _⟩ := R.at_ k cs[k] (rows[k]) (List.getElem?_eq_getElem hk) (List.getElem?_eq_getElem hk2)
  exact ⟨h1, ws, h2⟩
theorem RowsM.gr {H1 H' S' : Hp} {D : Addr} {cs : List Addr} {rows : List (List PyData)} (R : RowsM H1 D H S cs rows) (na : ∀ c, H1 c = none → B.live = true → c ≠ B.A) (e : Gr B H S H' S') : RowsM H1 D H' S' cs rows :=
  ⟨R.len, R.nd, R.fr, fun k c row h1 h2 => by
    obtain ⟨q1, ws, q2, q3⟩ := R.at_ k c row h1 h2
    exact ⟨none_of e (by rw [q2]; simp) q1, ws, e.keep c _ q2 (na c (R.fr c (List.mem_of_getElem? h1)).1), q3.mono e.base⟩⟩
theorem RowsM.updD {H1 : Hp} {D : Addr} {cs : List Addr} {rows : List (List PyData)} {o : HO} (R : RowsM H1 D H S cs rows) : RowsM H1 D (upd H D o) S cs rows :=
  ⟨R.len, R.nd, R.fr, fun k c row h1 h2 => by
    obtain ⟨q1, ws, q2, q3⟩ := R.at_ k c row h1 h2
    exact ⟨q1, ws, by rw [upd_ne (R.fr c (List.mem_of_getElem? h1)).2]; exact q2, q3⟩⟩
theorem RowsM.snoc {H1 : Hp} {D c : Addr} {cs : List Addr} {rows : List (List PyData)} {row : List PyData} {ws : List V} (R : RowsM H1 D H S cs rows) (h1 : c ∉ cs) (h2 : H1 c = none) (h3 : c ≠ D) (h4 : S c = none) (h5 : H c = some (.lst ws)) (h6 : Rps S ws row) : RowsM H1 D H S (cs ++ [c]) (rows ++ [row]) := by
  refine ⟨by rw [List.length_append, List.length_append, R.len]; rfl, ?_, fun x hx => ?_, fun k x r e1 e2 => ?_⟩
  · rw [List.nodup_append]
    exact ⟨R.nd, by simp, fun x hx y hy z => h1 (by rw [← List.mem_singleton.mp hy, ← z]; exact hx)⟩
  · rcases List.mem_append.mp hx with z | z
    · exact R.fr x z
    · rw [List.mem_singleton.mp z]; exact ⟨h2, h3⟩
  · by_cases hk : k < cs.length
    · rw [List.getElem?_append_left hk] at e1
      rw [List.getElem?_append_left (by rw [← R.len]; exact hk)] at e2
      exact R.at_ k x r e1 e2
    · rw [List.getElem?_append_right (by omega)] at e1
      rw [List.getElem?_append_right (by rw [← R.len]; omega)] at e2
      obtain rfl := List.mem_singleton.mp (List.mem_of_getElem? e1)
      obtain rfl := List.mem_singleton.mp (List.mem_of_getElem? e2)
      exact ⟨h4, ws, h5, h6⟩
end
def compM (tg : Tg) (elt : Ow) : List PyData → Nv → G → R (List (List PyData))
  | [], _, g => .ok [] g
  | d :: ds, ρ, g => match tg d ρ with
    | none => .bad
    | some ρ1 => match elt ρ1 g with
      | .ok (.lst x) g2 => (compM tg elt ds ρ g2).bind fun xs g3 => .ok (x :: xs) g3
      | _ => .bad
theorem compM_noex {tg : Tg} {elt : Ow} : ∀ {ds : List PyData} {ρ : Nv} {g g' : G} {n : Nat}, compM tg elt ds ρ g ≠ .ex n g'
  | [], ρ, g, g', n, h => by cases h
  | d :: ds, ρ, g, g', n, h => by
    unfold compM at h
    split at h
    · cases h
    · split at h
      · rename_i x g2 _
        cases e : compM tg elt ds ρ g2 with
        | ok a g3 => rw [e] at h; cases h
        | ex n2 g3 => exact compM_noex e
        | bad => rw [e] at h; cases h
      · cases h
def finM (i : Nat) (ρ : Nv) : R (List (List PyData)) → SR
  | .ok rows g => .nx (ρ.set i (.ow (.mat rows))) g
  | _ => .bad
/-- x = [a new list for ..], x a list of lists of one's own -/
def lcMS (i : Nat) (fi : Ar) (own : List Nat) (tg : Tg) (elt : Ow) : Sm := fun ρ g => match fi ρ g with
  | .ok ds g1 => if ds.length ≤ big then finM i ρ (compM tg elt ds (wipeD ρ own) g1) else .bad
  | _ => .bad
section
variable {X : Cx} {cls : Nat → Value} {W : WX} {pos : Pos} {a : Expr} {fa : Ex}
@[simp] def listO (f : Ex) : Ow := fun ρ g => (f ρ g).bind fun d g1 => match d with
  | .list ds => .ok (.lst ds) g1
  | .tuple ds => .ok (.lst ds) g1
  | _ => .bad
theorem po_list {p : Pos} (hm : X.mg "list" = none) (ha : PE X a (tE cls W fa)) (hg : Gl X "list" := by rfl) (hs : starEach [a] X.env = (false, eval a X.env) :: starEach [] X.env := by rfl) (hpl : (backTo pos (starEach [] X.env)).any (·.1) = false := by rfl) : PE X (.Call (.Name "list" p) [a] [] pos) (tO cls W (listO fa)) :=
  PE_imp (pe_callTy call_list_of hg hm PyProof.Rows.boot_list (pa_cons ha pa_nil hs) (by decide) (by decide) hs hpl) fun σ H Q ⟨B, S, ρ, g, I, h⟩ => by
    unfold listO at h
    refine ⟨B, S, ρ, g, I, ?_⟩
    cases ea : fa ρ g with
    | bad => rw [ea] at h; exact h
    | ex n g1 => rw [ea] at h; exact h
    | ok x g1 =>
      rw [ea] at h
      simp only [R.bind_ok] at h
      intro v H1 S1 I1 e1 r1
      cases r1 with
      | @lst b xs ds hb q =>
        refine ⟨_, _, rfl, .inl (.of (I1.sub _ _ hb)), fun l hl => ?_⟩
        obtain ⟨I2, e2⟩ := I1.allocO (o := .lst xs) hl
        exact h l _ _ _ I2 (e1.trans e2) (I1.stay hl) (none_back e1 hl) upd_same (.lst q)
      | @tup b xs ds hb q =>
        refine ⟨_, _, rfl, .inr (.of (I1.sub _ _ hb)), fun l hl => ?_⟩
        obtain ⟨I2, e2⟩ := I1.allocO (o := .lst xs) hl
        exact h l _ _ _ I2 (e1.trans e2) (I1.stay hl) (none_back e1 hl) upd_same (.lst q)
      | _ => exact False.elim h
theorem lcM_of {ts own : List Nat} {fi : Ar} {tg : Tg} {elt : Ow} {i : Nat} {Ds : Ends} (hts : ∀ i ∈ ts, i ∈ own) (σ : L2.St) (H : Hp) (h : tS cls W (lcMS i fi own tg elt) Ds σ H) :
    tLc (tI cls W fi) (tG ts tg) (tT cls W0 yesT) (tO cls W0 elt) own σ H fun x H1 => Ds.nx (σ.set i (some x)) H1 := by
  obtain ⟨B, S, ρ, g, I, h⟩ := h
  unfold lcMS at h
  refine ⟨B, S, ρ, g, I, ?_⟩
  cases ei : fi ρ g with
  | bad => rw [ei] at h; exact False.elim h
  | ex n g1 => rw [ei] at h; exact False.elim h
  | ok ds g1 =>
    rw [ei] at h
    simp only at h
    by_cases hz : ds.length ≤ big
    · rw [if_pos hz] at h
      intro J H1 S1 I1 e1 it D hD
      have nD : H D = none := none_back e1 hD
      have hDA : B.live = true → D ≠ B.A := fun hl z => I1.neA hD hl z.symm
      have na : ∀ c, H1 c = none → B.live = true → c ≠ B.A := fun c hc hl z => I1.neA hc hl z.symm
      obtain ⟨I2, e2⟩ := I1.allocO (o := .lst []) hD
      refine ⟨fun k m H' => k + m = ds.length ∧ ∃ S' g' cs rows, Good B σ H' S' ρ g' ∧ Gr B (upd H1 D (.lst [])) S1 (upd H' D (.lst [])) S' ∧ H' D = some (.lst (cs.map V.ref)) ∧ S' D = none ∧ RowsM H1 D H' S' cs rows ∧ cs.length ≤ k ∧
        SO cls W B S Ds (finM i ρ ((compM tg elt (ds.drop k) (wipeD ρ own) g').bind fun ys g2 => .ok (rows ++ ys) g2)), ?_, ?_⟩
      · refine ⟨ds.length, by omega, S1, g1, [], [], I2, by rw [upd_upd]; exact .refl, upd_same, I1.stay hD, ⟨rfl, List.nodup_nil, (fun _ z => nomatch z), (fun k c row z => nomatch z)⟩, Nat.le_refl _, ?_⟩
        have : (compM tg elt (ds.drop 0) (wipeD ρ own) g1).bind (fun ys g2 => R.ok ([] ++ ys) g2) = compM tg elt ds (wipeD ρ own) g1 := by
          rw [List.drop_zero]
          cases compM tg elt ds (wipeD ρ own) g1 <;> rfl
        rw [this]
        exact h
      · rintro k m H' ⟨him, S', g', cs, rows, I3, e3, hv, sD, RM, hvl, h3⟩
        have e3' : Same S1 S' := e3.base
        by_cases hk : k < ds.length
        · refine .inr ⟨it.go k H' hk (e3'.trans I3.sub), fun H'' => ∃ m', m' < m ∧ (k + 1 + m' = ds.length ∧ ∃ S' g' cs rows, Good B σ H'' S' ρ g' ∧ Gr B (upd H1 D (.lst [])) S1 (upd H'' D (.lst [])) S' ∧ H'' D = some (.lst (cs.map V.ref)) ∧ S' D = none ∧ RowsM H1 D H'' S' cs rows ∧ cs.length ≤ k + 1 ∧
            SO cls W B S Ds (finM i ρ ((compM tg elt (ds.drop (k + 1)) (wipeD ρ own) g').bind fun ys g2 => .ok (rows ++ ys) g2))), fun H'' z => z, fun x H4 hy => ?_⟩
          obtain ⟨d, S4, hd, gr1, rd⟩ := it.yld k H' S' x H4 hk e3' I3.sub hy
          obtain ⟨I4, e4⟩ := gr1.good I3
          have hdrop : ds.drop k = d :: ds.drop (k + 1) := by
            rw [List.drop_eq_getElem_cons hk]
            rw [List.getElem?_eq_getElem hk] at hd
            rw [Option.some.inj hd]
          rw [hdrop] at h3
          unfold compM at h3
          have step : ∀ {H5 S5 : Hp}, Gr B H' S' H5 S5 → Gr B (upd H1 D (.lst [])) S1 (upd H5 D (.lst [])) S5 := fun {H5 S5} e => by
            refine e3.trans ⟨fun a o q n => ?_, e.base, fun a q => ?_, fun a q => ?_⟩
            · by_cases ha : a = D
              · subst ha; rw [upd_same] at q ⊢; exact q
              · rw [upd_ne ha] at q ⊢; exact e.keep a o q n
            · rcases e.new a q with z | z
              · exact .inl z
              · by_cases ha : a = D
                · subst ha; rw [hv] at z; cases z
                · exact .inr (by rw [upd_ne ha]; exact z)
            · by_cases ha : a = D
              · subst ha; rw [upd_same]; simp
              · rw [upd_ne ha] at q ⊢; exact e.there a q
          cases et : tg d (wipeD ρ own) with
          | none => simp only [et, R.bind_bad] at h3; exact False.elim h3
          | some ρ1 =>
            simp only [et] at h3
            refine ⟨B, S4, wipeD ρ own, g', d, ρ1, I4.wiped own, rd, et, fun σ1 I5 ch => ⟨by rw [ch.wipe hts]; exact (Chg.wipe (ts := own) ⟨by rw [wipe_length], fun j hj => wipe_out hj⟩ fun _ z => z), B, S4, ρ1, g', I5, ?_⟩⟩
            intro H6 S6 I6 e6
            have I6' := (I4.back I6 e6)
            have e46 : Gr B H' S' H6 S6 := e4.trans e6
            rw [if_pos rfl]
            refine ⟨B, S6, ρ1, g', I6, ?_⟩
            cases ee : elt ρ1 g' with
            | bad => simp only [ee, R.bind_bad] at h3; exact False.elim h3
            | ex n g6 => simp only [ee, R.bind_bad] at h3; exact False.elim h3
            | ok y g6 =>
              cases y with
              | lst row =>
                simp only [ee] at h3
                intro c o H7 S7 I7 e7 n1 n2 ho r7
                have I7' := I6'.back I7 e7
                have e77 : Gr B H' S' H7 S7 := e46.trans e7
                have hD7 := e77.keep D _ hv hDA
                have sD7 := none_of e77 (by rw [hv]; simp) sD
                have cn : ∀ x, H' x ≠ none → x ≠ c := fun x hx z => e46.there x hx (by rw [z]; exact n2)
                have cD : c ≠ D := fun z => cn D (by rw [hv]; simp) z.symm
                have c1 : H1 c = none := by
                  cases q : H1 c with
                  | none => rfl
                  | some u =>
                    have z := e3.there c (by rw [upd_ne cD, q]; simp)
                    rw [upd_ne cD] at z
                    exact absurd rfl (cn c z)
                have cc : c ∉ cs := fun z => by
                  obtain ⟨_, ws, q⟩ := RM.row z
                  exact cn c (by rw [q]; simp) rfl
                cases r7 with
                | @lst _ ws r7 =>
                  refine ⟨cs.map V.ref, hD7, by rw [List.length_map]; exact big_lt (by omega), m - 1, by omega, by omega, S7, g6, cs ++ [c], rows ++ [row], ?_, by rw [upd_upd]; exact step e77, by rw [upd_same, List.map_append]; rfl, sD7, ((RM.gr na e77).snoc cc c1 cD n1 ho r7).updD, by rw [List.length_append]; exact Nat.succ_le_succ hvl, ?_⟩
                  · refine I.updD I7' _ nD sD7 fun a o q n => ?_
                    have ha : a ≠ D := ne_of_none q nD
                    have z := e3.keep a o (by rw [upd_ne ha]; exact e1.keep a o q n) n
                    rw [upd_ne ha] at z
                    exact e77.keep a o z n
                  · cases eR : compM tg elt (ds.drop (k + 1)) (wipeD ρ own) g6 with
                    | bad => rw [eR] at h3; exact h3
                    | ex n g7 => exact absurd eR compM_noex
                    | ok ys g7 =>
                      rw [eR] at h3
                      simp only [R.bind_ok] at h3 ⊢
                      rw [List.append_assoc]
                      exact h3
              | _ => simp only [ee, R.bind_bad] at h3; exact False.elim h3
        · have hdrop : ds.drop k = [] := List.drop_eq_nil_of_le (by omega)
          rw [hdrop] at h3
          simp only [compM, R.bind_ok, List.append_nil] at h3
          refine .inl ⟨it.stop k H' (by omega) (e3'.trans I3.sub), ?_⟩
          have keepO : ∀ a o, H a = some o → (B.live = true → a ≠ B.A) → H' a = some o := fun a o q n => by
            have ha : a ≠ D := ne_of_none q nD
            have z := e3.keep a o (by rw [upd_ne ha]; exact e1.keep a o q n) n
            rw [upd_ne ha] at z
            exact z
          have J0 := I.updD I3 (D := D) (.lst []) nD sD keepO
          have gr : Gr B H S (upd H' D (.lst [])) S' := e1.trans (e2.trans (by
            refine ⟨fun a o q n => e3.keep a o q n, e3.base, fun a q => e3.new a q, fun a q => e3.there a q⟩))
          refine h3 _ _ _ ?_ (e1.base.trans e3.base)
          by_cases hil : i < ρ.length
          · have K := I.setOw J0 gr (i := i) (b := .lst []) (a := D) sD nD upd_same (.lst .nil) (fun _ z => nomatch z)
            have hiσ : i < σ.length := by have := I.len; omega
            have at1 : ∀ {j : Nat}, j ≠ i → (σ.set i (some (V.ref D)))[j]? = σ[j]? := fun hj => List.getElem?_set_ne (Ne.symm hj)
            have at2 : ∀ {j : Nat}, j ≠ i → (ρ.set i (Sl.ow (.lst [])))[j]? = ρ[j]? := fun hj => List.getElem?_set_ne (Ne.symm hj)
            have q := K.mutR (i := i) (b := .lst []) (a := D) (rows' := rows) (cs' := cs) (List.getElem?_set_self hil) (List.getElem?_set_self hiσ) H' (fun x hx _ => (upd_ne hx).symm) hv RM.len RM.nd (fun z => (RM.fr D z).2 rfl)
              (fun k c row q1 q2 => (RM.at_ k c row q1 q2).2)
              (fun c hc => ⟨(RM.row hc).1, fun hl => na c (RM.fr c hc).1 hl, by
                cases q : B.H c with
                | none => rfl
                | some u => exact absurd (RM.fr c hc).1 (I1.there c (by rw [q]; simp))⟩)
              (fun j b a' hj q1 q2 z => by
                rw [at2 hj] at q1
                rw [at1 hj] at q2
                obtain ⟨x, o, p1, p2, p3, p4, p5, p6⟩ := I1.ow j b q1
                have e := addr_of q2 p1
                subst e
                rw [(RM.fr _ z).1] at p5
                cases p5)
              (fun j rows2 a2 cs2 hj q1 q2 q3 c hc z => by
                rw [at2 hj] at q1
                rw [at1 hj] at q2
                obtain ⟨x, o, p1, p2, p3, p4, p5, p6⟩ := I.ow j _ q1
                have e := addr_of q2 p1
                subst e
                have ha : a2 ≠ D := ne_of_none p5 nD
                rw [upd_ne ha, keepO a2 o p5 p3] at q3
                rw [q3] at p5
                have w := ((I.mx j rows2 a2 cs2 q1 q2 p5).1.row (I.rowsAt q1 q2 p5) hc).2.2.2
                exact e1.there c w (RM.fr c z).1)
            rw [List.set_set] at q
            exact q
          · have s1 : ρ.set i (.ow (.mat rows)) = ρ := List.set_eq_of_length_le (by omega)
            have s2 : σ.set i (some (V.ref D)) = σ := List.set_eq_of_length_le (by have := I.len; omega)
            rw [s1, s2]
            exact I3
    · rw [if_neg hz] at h
      exact False.elim h
/-- x = [a new list for ..], x a local that gets cells -/
theorem psd_setM (i : Nat) {y : Str} {py : Pos} {elt tg iter : Expr} {scope : Scope} {own : List (Str × Nat)} {lpos : Pos} {ts : List Nat} {fi : Ar} {ft : Tg} {fe : Ow} (hc : X.calm = true) (hN : X.N.Nodup)
    (hsw : swapsWith (.ListComp elt [⟨tg, iter, [], 0⟩] scope lpos) (some (.Name y py)) pos.line X.env = pure true) (hi : PI X tg iter (tI cls W fi)) (ok : BlkOk X.N X.env.scope scope own)
    (hg : ∀ (s : Shared) (H : Hp) (C : Addr) (cl : List (Str × Addr)) (fp : List Addr), PG (X.blk s H scope (compEnvC scope cl C X.env) fp) tg (tG ts ft))
    (he : ∀ (s : Shared) (H : Hp) (C : Addr) (cl : List (Str × Addr)) (fp : List Addr), PE (X.blk s H scope (compEnvC scope cl C X.env) fp) elt (tO cls W0 fe)) (hts : ∀ i ∈ ts, i ∈ own.map (·.2) := by decide) (hy : X.N[i]? = some y := by rfl) (hyl : X.env.scope.names.lookup y = some .local := by rfl)
    (hs : ∀ x, foldedSetIterable iter X.env x = pure x := by intro _; rfl) :
    PS X (.Assign [.Name y py] (.ListComp elt [⟨tg, iter, [], 0⟩] scope lpos) pos) (tS cls W (lcMS i fi (own.map (·.2)) ft fe)) :=
  PS_imp (ps_setLc hc hN hy hyl hsw hi ok hg (fun _ _ _ _ _ => ptsd_nil (cls := cls) (W := W0)) he hs) fun D σ H h => lcM_of hts σ H h
end
end DL

set_option Elab.async false
set_option linter.all false
set_option maxRecDepth 100000
set_option maxHeartbeats 400000
/-! The data layer, part 12: comprehensions with two fors. -/
namespace DL
open PySem PySem.Spec PyProof.Rows L2
section
variable {B : Bs} {σ σ0 : L2.St} {H S : Hp} {ρ ρ0 : Nv} {g : G}
theorem upd_id {H : Hp} {a : Addr} {o : HO} (h : H a = some o) : upd H a o = H := by
  funext x
  by_cases e : x = a
  · subst e; rw [upd_same, h]
  · rw [upd_ne e]
/-- what nobody holds may be changed: the things of one's own are those of an earlier state -/
theorem Good.updE {H0 S0 : Hp} {g0 : G} (I0 : Good B σ0 H0 S0 ρ0 g0) (I : Good B σ H S ρ g) {D : Addr} (o' : HO) (nD : H0 D = none) (sD : S D = none) (keepO : ∀ a o, H0 a = some o → (B.live = true → a ≠ B.A) → H a = some o)
    (same : ∀ (j : Nat) (b : Ob), ρ[j]? = some (.ow b) → ρ0[j]? = some (.ow b) ∧ σ[j]? = σ0[j]?) : Good B σ (upd H D o') S ρ g := by
  have k1' : ∀ (j : Nat) (b : Ob) (a : Addr), ρ[j]? = some (.ow b) → σ[j]? = some (some (.ref a)) → ∃ o, H0 a = some o ∧ (B.live = true → a ≠ B.A) ∧ ρ0[j]? = some (.ow b) ∧ σ0[j]? = some (some (.ref a)) := fun j b a q k => by
    obtain ⟨s1, s2⟩ := same j b q
    obtain ⟨a', o2, k1, _, k3, _, k5, _⟩ := I0.ow j b s1
    rw [s2] at k
    have ea := addr_of k k1
    subst ea
    exact ⟨o2, k5, k3, s1, k1⟩
  refine ⟨⟨fun a o q => ?_, fun a o q n => ?_, I.base, I.new, fun a q => ?_, I.no, ?_⟩, I.len, I.sh, I.dw, I.sw, fun j b q => ?_, I.ap, I.mxMove (Same.refl _) (fun i b h => ⟨⟨b, h⟩, rfl⟩) (fun i rows h => h) (fun j rows a' q k => ?_) fun j rows a' cs _ q k k3 x hx => ?_⟩
  · rw [upd_ne (ne_of_none q sD)]; exact I.sub _ _ q
  · have hB : B.H D = none := by
      cases z : B.H D with
      | none => rfl
      | some u => exact absurd nD (I0.there D (by rw [z]; simp))
    rw [upd_ne (ne_of_none q hB)]; exact I.keep a o q n
  · by_cases ha : a = D
    · subst ha; rw [upd_same]; simp
    · rw [upd_ne ha]; exact I.there a q
  · exact I.dr.mono (Same.refl _) fun hl => upd_ne (fun z => I0.neA nD hl z)
  · obtain ⟨a, o, h1, h2, h4, h5, h6, h7⟩ := I.ow j b q
    obtain ⟨o2, k5, _⟩ := k1' j b a q h1
    have hne : a ≠ D := fun z => by rw [z, nD] at k5; cases k5
    exact ⟨a, o, h1, h2, h4, h5, by rw [upd_ne hne]; exact h6, h7⟩
  · obtain ⟨o2, k5, _⟩ := k1' j _ a' q k
    have hne : a' ≠ D := fun z => by rw [z, nD] at k5; cases k5
    exact upd_ne hne
  · have g7 := (I.mx j rows a' cs q k k3).1.row (I.rowsAt q k k3) hx
    have hne : x ≠ D := fun z => by
      subst z
      obtain ⟨o2, l5, l3, q0, k0⟩ := k1' j _ a' q k
      have l6 := keepO a' o2 l5 l3
      rw [k3] at l6
      rw [← l6] at l5
      exact ((I0.mx j rows a' cs q0 k0 l5).1.row (I0.rowsAt q0 k0 l5) hx).2.2.2 nD
    exact ⟨upd_ne hne, g7.1⟩
end
/-- a target that puts no thing of one's own anywhere -/
def ShT (ts : List Nat) (f : Tg) : Prop := ∀ d ρ ρ', f d ρ = some ρ' → ∀ (j : Nat) (b : Ob), ρ'[j]? = some (.ow b) → j ∉ ts ∧ ρ[j]? = some (.ow b)
theorem shT_name (i : Nat) : ShT [i] (nameT i) := fun d ρ ρ' h j b hb => by
  unfold nameT at h
  cases h
  by_cases hj : j = i
  · subst hj
    by_cases hl : j < ρ.length
    · rw [List.getElem?_set_self hl] at hb; cases hb
    · rw [List.getElem?_eq_none (by rw [List.length_set]; omega)] at hb; cases hb
  · rw [List.getElem?_set_ne (Ne.symm hj)] at hb
    exact ⟨fun z => hj (List.mem_singleton.mp z), hb⟩
def compD2 (tg : Tg) (cond : Te) (fi1 : Ar) (own1 : List Nat) (tg1 : Tg) (cond1 : Te) (elt : Ex) : List PyData → Nv → G → R (List PyData)
  | [], _, g => .ok [] g
  | d :: ds, ρ, g => match tg d ρ with
    | none => .bad
    | some ρ1 => match cond ρ1 g with
      | .ok true g1 => match fi1 ρ1 g1 with
        | .ok es g2 => if es.length ≤ big then (compD tg1 cond1 elt es (wipeD ρ1 own1) g2).bind fun xs g3 => (compD2 tg cond fi1 own1 tg1 cond1 elt ds ρ g3).bind fun ys g4 => .ok (xs ++ ys) g4 else .bad
        | _ => .bad
      | .ok false g1 => compD2 tg cond fi1 own1 tg1 cond1 elt ds ρ g1
      | _ => .bad
theorem compD2_noex {tg : Tg} {cond : Te} {fi1 : Ar} {own1 : List Nat} {tg1 : Tg} {cond1 : Te} {elt : Ex} : ∀ {ds : List PyData} {ρ : Nv} {g g' : G} {n : Nat}, compD2 tg cond fi1 own1 tg1 cond1 elt ds ρ g ≠ .ex n g'
  | [], ρ, g, g', n, h => by cases h
  | d :: ds, ρ, g, g', n, h => by
    unfold compD2 at h
    split at h
    · cases h
    · split at h
      · split at h
        · rename_i es g2 _
          split at h
          · cases e : compD tg1 cond1 elt es (wipeD _ own1) g2 with
            | ok a g3 =>
              rw [e] at h
              simp only [R.bind_ok] at h
              cases e2 : compD2 tg cond fi1 own1 tg1 cond1 elt ds ρ g3 with
              | ok a g4 => rw [e2] at h; cases h
              | ex n2 g4 => exact compD2_noex e2
              | bad => rw [e2] at h; cases h
            | ex n2 g3 => exact compD_noex e
            | bad => rw [e] at h; cases h
          · cases h
        · cases h
      · exact compD2_noex h
      · cases h
def fin2 : R (List PyData) → R Ob
  | .ok xs g => if xs.length ≤ big then .ok (.lst xs) g else .bad
  | _ => .bad
def lcO2 (fi : Ar) (own : List Nat) (tg : Tg) (cond : Te) (fi1 : Ar) (own1 : List Nat) (tg1 : Tg) (cond1 : Te) (elt : Ex) : Ow := fun ρ g => (fi ρ g).bind fun ds g1 => if ds.length ≤ big then fin2 (compD2 tg cond fi1 own1 tg1 cond1 elt ds (wipeD ρ own) g1) else .bad
section
variable {X : Cx} {cls : Nat → Value} {W : WX} {pos : Pos}
theorem lc2_of {ts ts1 own own1 : List Nat} {fi fi1 : Ar} {tg tg1 : Tg} {cond cond1 : Te} {elt : Ex} (hts : ∀ i ∈ ts, i ∈ own) (hts1 : ∀ i ∈ ts1, i ∈ own1) (hsh : ShT ts tg) (σ : L2.St) (H : Hp) (Q : VK) (h : tO cls W (lcO2 fi own tg cond fi1 own1 tg1 cond1 elt) σ H Q) :
    tLc2 (tI cls W fi) (tG ts tg) (tT cls W0 cond) (tI cls W0 fi1) (tG ts1 tg1) (tT cls W0 cond1) (tE cls W0 elt) own own1 σ H Q := by
  obtain ⟨B, S, ρ, g, I, h⟩ := h
  unfold lcO2 at h
  refine ⟨B, S, ρ, g, I, ?_⟩
  cases ei : fi ρ g with
  | bad => rw [ei] at h; exact h
  | ex n g1 => rw [ei] at h; exact h
  | ok ds g1 =>
    rw [ei] at h
    simp only [R.bind_ok] at h
    by_cases hz : ds.length ≤ big
    · rw [if_pos hz] at h
      intro J H1 S1 I1 e1 it D hD
      have nD : H D = none := none_back e1 hD
      have hDA : B.live = true → D ≠ B.A := fun hl z => I1.neA hD hl z.symm
      obtain ⟨I2, e2⟩ := I1.allocO (o := .lst []) hD
      -- growth beside D
      have stepD : ∀ {H' S' H5 S5 : Hp} {vs : List V}, H' D = some (.lst vs) → Gr B (upd H1 D (.lst [])) S1 (upd H' D (.lst [])) S' → Gr B H' S' H5 S5 → Gr B (upd H1 D (.lst [])) S1 (upd H5 D (.lst [])) S5 := fun {H' S' H5 S5 vs} hv e3 e => by
        refine e3.trans ⟨fun a o q n => ?_, e.base, fun a q => ?_, fun a q => ?_⟩
        · by_cases ha : a = D
          · subst ha; rw [upd_same] at q ⊢; exact q
          · rw [upd_ne ha] at q ⊢; exact e.keep a o q n
        · rcases e.new a q with z | z
          · exact .inl z
          · by_cases ha : a = D
            · subst ha; rw [hv] at z; cases z
            · exact .inr (by rw [upd_ne ha]; exact z)
        · by_cases ha : a = D
          · subst ha; rw [upd_same]; simp
          · rw [upd_ne ha] at q ⊢; exact e.there a q
      have keepO : ∀ {H' S' : Hp}, Gr B (upd H1 D (.lst [])) S1 (upd H' D (.lst [])) S' → ∀ a o, H a = some o → (B.live = true → a ≠ B.A) → H' a = some o := fun {H' S'} e3 a o q n => by
        have ha : a ≠ D := ne_of_none q nD
        have z := e3.keep a o (by rw [upd_ne ha]; exact e1.keep a o q n) n
        rw [upd_ne ha] at z
        exact z
      have grO : ∀ {H' S' : Hp}, Gr B (upd H1 D (.lst [])) S1 (upd H' D (.lst [])) S' → Gr B H S (upd H' D (.lst [])) S' := fun e3 => e1.trans (e2.trans e3)
      refine ⟨fun i m H' => i + m = ds.length ∧ ∃ S' g' vs xs, Good B σ H' S' ρ g' ∧ Gr B (upd H1 D (.lst [])) S1 (upd H' D (.lst [])) S' ∧ H' D = some (.lst vs) ∧ S' D = none ∧ Rps S' vs xs ∧
        OO cls W B σ H S ρ Q (fin2 ((compD2 tg cond fi1 own1 tg1 cond1 elt (ds.drop i) (wipeD ρ own) g').bind fun ys g2 => .ok (xs ++ ys) g2)), ?_, ?_⟩
      · refine ⟨ds.length, by omega, S1, g1, [], [], I2, by rw [upd_upd]; exact .refl, upd_same, I1.stay hD, .nil, ?_⟩
        have : (compD2 tg cond fi1 own1 tg1 cond1 elt (ds.drop 0) (wipeD ρ own) g1).bind (fun ys g2 => R.ok ([] ++ ys) g2) = compD2 tg cond fi1 own1 tg1 cond1 elt ds (wipeD ρ own) g1 := by
          rw [List.drop_zero]
          cases compD2 tg cond fi1 own1 tg1 cond1 elt ds (wipeD ρ own) g1 <;> rfl
        rw [this]
        exact h
      · rintro i m H' ⟨him, S', g', vs, xs, I3, e3, hv, sD, rv, h3⟩
        have e3' : Same S1 S' := e3.base
        by_cases hi : i < ds.length
        · refine .inr ⟨it.go i H' hi (e3'.trans I3.sub), fun H'' => ∃ m', m' < m ∧ (i + 1 + m' = ds.length ∧ ∃ S' g' vs xs, Good B σ H'' S' ρ g' ∧ Gr B (upd H1 D (.lst [])) S1 (upd H'' D (.lst [])) S' ∧ H'' D = some (.lst vs) ∧ S' D = none ∧ Rps S' vs xs ∧
            OO cls W B σ H S ρ Q (fin2 ((compD2 tg cond fi1 own1 tg1 cond1 elt (ds.drop (i + 1)) (wipeD ρ own) g').bind fun ys g2 => .ok (xs ++ ys) g2))), fun H'' z => z, fun x H4 hy => ?_⟩
          obtain ⟨d, S4, hd, gr1, rd⟩ := it.yld i H' S' x H4 hi e3' I3.sub hy
          obtain ⟨I4, e4⟩ := gr1.good I3
          have hdrop : ds.drop i = d :: ds.drop (i + 1) := by
            rw [List.drop_eq_getElem_cons hi]
            rw [List.getElem?_eq_getElem hi] at hd
            rw [Option.some.inj hd]
          rw [hdrop] at h3
          unfold compD2 at h3
          cases et : tg d (wipeD ρ own) with
          | none => simp only [et, R.bind_bad, fin2] at h3; exact False.elim h3
          | some ρ1 =>
            simp only [et] at h3
            refine ⟨B, S4, wipeD ρ own, g', d, ρ1, I4.wiped own, rd, et, fun σ1 I5 ch => ⟨by rw [ch.wipe hts]; exact (Chg.wipe (ts := own) ⟨by rw [wipe_length], fun j hj => wipe_out hj⟩ fun _ z => z), B, S4, ρ1, g', I5, ?_⟩⟩
            -- the things of one's own behind the target are those ahead of it
            have same1 : ∀ (j : Nat) (b : Ob), ρ1[j]? = some (.ow b) → (wipeD ρ own)[j]? = some (.ow b) ∧ σ1[j]? = (wipe σ own)[j]? := fun j b q => by
              obtain ⟨q1, q2⟩ := hsh d _ _ et j b q
              exact ⟨q2, ch.out j q1⟩
            cases ec : cond ρ1 g' with
            | bad => simp only [ec, R.bind_bad, fin2] at h3; exact False.elim h3
            | ex n g5 => simp only [ec, R.bind_bad, fin2] at h3; exact False.elim h3
            | ok b g5 =>
              intro H6 S6 I6 e6
              have I6' := (I4.back I6 e6)
              have e46 : Gr B H' S' H6 S6 := e4.trans e6
              cases b with
              | false =>
                rw [if_neg Bool.false_ne_true]
                simp only [ec] at h3
                exact ⟨m - 1, by omega, by omega, S6, g5, vs, xs, I6', stepD hv e3 e46, e46.keep D _ hv hDA, none_of e46 (by rw [hv]; simp) sD, rv.mono e46.base, h3⟩
              | true =>
                rw [if_pos rfl]
                simp only [ec] at h3
                refine ⟨B, S6, ρ1, g5, I6, ?_⟩
                cases ef : fi1 ρ1 g5 with
                | bad => simp only [ef, R.bind_bad, fin2] at h3; exact False.elim h3
                | ex n g6 => simp only [ef, R.bind_bad, fin2] at h3; exact False.elim h3
                | ok es g6 =>
                  simp only [ef] at h3
                  by_cases hes : es.length ≤ big
                  · rw [if_pos hes] at h3
                    intro J1 H7 S7 I7 e7 it1
                    have e47 := e46.trans e7
                    have h7D := e47.keep D _ hv hDA
                    have s7D := none_of e47 (by rw [hv]; simp) sD
                    refine ⟨fun j k H'' => j + k = es.length ∧ ∃ S'' g'' ws zs, Good B σ1 H'' S'' ρ1 g'' ∧ Gr B (upd H1 D (.lst [])) S1 (upd H'' D (.lst [])) S'' ∧ Same S7 S'' ∧ H'' D = some (.lst ws) ∧ S'' D = none ∧ Rps S'' ws zs ∧
                      OO cls W B σ H S ρ Q (fin2 ((compD tg1 cond1 elt (es.drop j) (wipeD ρ1 own1) g'').bind fun ys g3 => (compD2 tg cond fi1 own1 tg1 cond1 elt (ds.drop (i + 1)) (wipeD ρ own) g3).bind fun us g4 => .ok (zs ++ (ys ++ us)) g4)), ?_, ?_⟩
                    · refine ⟨es.length, by omega, S7, g6, vs, xs, I7, stepD hv e3 e47, Same.refl _, h7D, s7D, rv.mono e47.base, ?_⟩
                      rw [List.drop_zero]
                      have : ((compD tg1 cond1 elt es (wipeD ρ1 own1) g6).bind fun xs_1 g3 => (compD2 tg cond fi1 own1 tg1 cond1 elt (ds.drop (i + 1)) (wipeD ρ own) g3).bind fun ys g4 => R.ok (xs_1 ++ ys) g4).bind (fun ys g2 => R.ok (xs ++ ys) g2) = (compD tg1 cond1 elt es (wipeD ρ1 own1) g6).bind fun ys g3 => (compD2 tg cond fi1 own1 tg1 cond1 elt (ds.drop (i + 1)) (wipeD ρ own) g3).bind fun us g4 => R.ok (xs ++ (ys ++ us)) g4 := by
                        cases compD tg1 cond1 elt es (wipeD ρ1 own1) g6 with
                        | ok a g3 =>
                          simp only [R.bind_ok]
                          cases compD2 tg cond fi1 own1 tg1 cond1 elt (ds.drop (i + 1)) (wipeD ρ own) g3 <;> rfl
                        | ex n g3 => rfl
                        | bad => rfl
                      rw [this] at h3
                      exact h3
                    · rintro j k H'' ⟨hjk, S'', g'', ws, zs, J3, f3, s73, hw, tD, rw', h4⟩
                      by_cases hj : j < es.length
                      · refine .inr ⟨it1.go j H'' hj (s73.trans J3.sub), fun Hn => ∃ k', k' < k ∧ (j + 1 + k' = es.length ∧ ∃ S'' g'' ws zs, Good B σ1 Hn S'' ρ1 g'' ∧ Gr B (upd H1 D (.lst [])) S1 (upd Hn D (.lst [])) S'' ∧ Same S7 S'' ∧ Hn D = some (.lst ws) ∧ S'' D = none ∧ Rps S'' ws zs ∧
                          OO cls W B σ H S ρ Q (fin2 ((compD tg1 cond1 elt (es.drop (j + 1)) (wipeD ρ1 own1) g'').bind fun ys g3 => (compD2 tg cond fi1 own1 tg1 cond1 elt (ds.drop (i + 1)) (wipeD ρ own) g3).bind fun us g4 => .ok (zs ++ (ys ++ us)) g4))), fun Hn z => z, fun x1 H9 hy1 => ?_⟩
                        obtain ⟨d1, S9, hd1, gr9, rd1⟩ := it1.yld j H'' S'' x1 H9 hj s73 J3.sub hy1
                        obtain ⟨I9, e9⟩ := gr9.good J3
                        have hdrop1 : es.drop j = d1 :: es.drop (j + 1) := by
                          rw [List.drop_eq_getElem_cons hj]
                          rw [List.getElem?_eq_getElem hj] at hd1
                          rw [Option.some.inj hd1]
                        rw [hdrop1] at h4
                        unfold compD at h4
                        cases et1 : tg1 d1 (wipeD ρ1 own1) with
                        | none => simp only [et1, R.bind_bad, fin2] at h4; exact False.elim h4
                        | some ρ2 =>
                          simp only [et1] at h4
                          refine ⟨B, S9, wipeD ρ1 own1, g'', d1, ρ2, I9.wiped own1, rd1, et1, fun σ2 I10 ch1 => ⟨by rw [ch1.wipe hts1]; exact (Chg.wipe (ts := own1) ⟨by rw [wipe_length], fun j hj => wipe_out hj⟩ fun _ z => z), B, S9, ρ2, g'', I10, ?_⟩⟩
                          cases ec1 : cond1 ρ2 g'' with
                          | bad => simp only [ec1, R.bind_bad, fin2] at h4; exact False.elim h4
                          | ex n g5 => simp only [ec1, R.bind_bad, fin2] at h4; exact False.elim h4
                          | ok b1 g11 =>
                            intro H11 S11 I11 e11
                            have I11' := I9.back I11 e11
                            have e911 : Gr B H'' S'' H11 S11 := e9.trans e11
                            cases b1 with
                            | false =>
                              rw [if_neg Bool.false_ne_true]
                              simp only [ec1] at h4
                              exact ⟨k - 1, by omega, by omega, S11, g11, ws, zs, I11', stepD hw f3 e911, s73.trans e911.base, e911.keep D _ hw hDA, none_of e911 (by rw [hw]; simp) tD, rw'.mono e911.base, h4⟩
                            | true =>
                              rw [if_pos rfl]
                              simp only [ec1] at h4
                              refine ⟨B, S11, ρ2, g11, I11, ?_⟩
                              cases ee : elt ρ2 g11 with
                              | bad => simp only [ee, R.bind_bad, fin2] at h4; exact False.elim h4
                              | ex n g6 => simp only [ee, R.bind_bad, fin2] at h4; exact False.elim h4
                              | ok y g12 =>
                                simp only [ee] at h4
                                intro v H12 S12 I12 e12 r12
                                have I12' := I11'.back I12 e12
                                have eA : Gr B H'' S'' H12 S12 := e911.trans e12
                                have hD12 := eA.keep D _ hw hDA
                                have sD12 := none_of eA (by rw [hw]; simp) tD
                                -- the rest goes well, so all is short enough
                                cases eR : compD tg1 cond1 elt (es.drop (j + 1)) (wipeD ρ1 own1) g12 with
                                | bad => rw [eR] at h4; exact False.elim h4
                                | ex n g7 => exact absurd eR compD_noex
                                | ok ys g13 =>
                                  rw [eR] at h4
                                  simp only [R.bind_ok] at h4
                                  cases eR2 : compD2 tg cond fi1 own1 tg1 cond1 elt (ds.drop (i + 1)) (wipeD ρ own) g13 with
                                  | bad => rw [eR2] at h4; exact False.elim h4
                                  | ex n g7 => exact absurd eR2 compD2_noex
                                  | ok us g14 =>
                                    rw [eR2] at h4
                                    simp only [R.bind_ok, fin2] at h4
                                    by_cases hlen : (zs ++ (y :: ys ++ us)).length ≤ big
                                    · rw [if_pos hlen] at h4
                                      have hzl : ws.length = zs.length := rw'.length.symm ▸ rfl
                                      refine ⟨ws, hD12, big_lt (by rw [List.length_append, List.length_append, List.length_cons] at hlen; omega), k - 1, by omega, by omega, S12, g12, ws ++ [v], zs ++ [y], ?_, by rw [upd_upd]; exact stepD hw f3 eA, s73.trans eA.base, upd_same, sD12, (rw'.mono eA.base).append (.cons r12 .nil), ?_⟩
                                      · exact (I.wiped own).updE I12' _ nD sD12 (fun a o q n => eA.keep a o (keepO f3 a o q n) n) same1
                                      · rw [eR]
                                        simp only [R.bind_ok]
                                        rw [eR2]
                                        simp only [R.bind_ok, fin2]
                                        have e10 : zs ++ [y] ++ (ys ++ us) = zs ++ (y :: ys ++ us) := by simp
                                        rw [e10, if_pos hlen]
                                        exact h4
                                    · rw [if_neg hlen] at h4
                                      exact False.elim h4
                      · -- the second source is at its end
                        have hdrop1 : es.drop j = [] := List.drop_eq_nil_of_le (by omega)
                        rw [hdrop1] at h4
                        simp only [compD, R.bind_ok, List.nil_append] at h4
                        refine .inl ⟨it1.stop j H'' (by omega) (s73.trans J3.sub), m - 1, by omega, by omega, S'', g'', ws, zs, ?_, f3, hw, tD, rw', h4⟩
                        have K1 := (I.wiped own).updE J3 (.lst []) nD tD (keepO f3) same1
                        have K2 := I.back K1 (grO f3)
                        have K3 := I.updD K2 (.lst ws) nD tD (fun a o q n => by
                          have ha : a ≠ D := ne_of_none q nD
                          rw [upd_ne ha]
                          exact keepO f3 a o q n)
                        rw [upd_upd, upd_id hw] at K3
                        exact K3
                  · rw [if_neg hes] at h3
                    simp only [R.bind_bad, fin2] at h3
                    exact False.elim h3
        · have hdrop : ds.drop i = [] := List.drop_eq_nil_of_le (by omega)
          rw [hdrop] at h3
          simp only [compD2, R.bind_ok, List.append_nil, fin2] at h3
          refine .inl ⟨it.stop i H' (by omega) (e3'.trans I3.sub), ?_⟩
          by_cases hx : xs.length ≤ big
          · rw [if_pos hx] at h3
            refine h3 D (.lst vs) H' S' I3 ?_ sD nD hv (.lst rv)
            refine e1.trans ⟨fun a o q n => ?_, e3.base, fun a q => ?_, fun a q => ?_⟩
            · have ha : a ≠ D := ne_of_none q hD
              have z := e3.keep a o (by rw [upd_ne ha]; exact q) n
              rw [upd_ne ha] at z
              exact z
            · rcases e3.new a q with z | z
              · exact .inl z
              · by_cases ha : a = D
                · subst ha; exact .inr hD
                · rw [upd_ne ha] at z; exact .inr z
            · by_cases ha : a = D
              · subst ha; rw [hv]; simp
              · have z := e3.there a (by rw [upd_ne ha]; exact q)
                rw [upd_ne ha] at z
                exact z
          · rw [if_neg hx] at h3
            exact False.elim h3
    · rw [if_neg hz] at h
      exact False.elim h
/-- x = [.. for .. for ..], x a local -/
theorem psd_setLcO2 (i : Nat) {y : Str} {py : Pos} {elt tg iter tg1 iter1 : Expr} {ifs ifs1 : List Expr} {scope : Scope} {own : List (Str × Nat)} {lpos : Pos} {ts ts1 vs1 : List Nat} {fi fi1 : Ar} {ft ft1 : Tg} {fc fc1 : Te} {fe : Ex} (hc : X.calm = true) (hN : X.N.Nodup)
    (hsw : swapsWith (.ListComp elt [⟨tg, iter, ifs, 0⟩, ⟨tg1, iter1, ifs1, 0⟩] scope lpos) (some (.Name y py)) pos.line X.env = pure true) (hi : PI X tg iter (tI cls W fi)) (ok : BlkOk X.N X.env.scope scope own)
    (hg : ∀ (s : Shared) (H : Hp) (C : Addr) (cl : List (Str × Addr)) (fp : List Addr), PG (X.blk s H scope (compEnvC scope cl C X.env) fp) tg (tG ts ft)) (ht : ∀ (s : Shared) (H : Hp) (C : Addr) (cl : List (Str × Addr)) (fp : List Addr), PTs (X.blk s H scope (compEnvC scope cl C X.env) fp) ifs (tT cls W0 fc))
    (hi1 : ∀ (s : Shared) (H : Hp) (C : Addr) (cl : List (Str × Addr)) (fp : List Addr), PI (X.blk s H scope (compEnvC scope cl C X.env) fp) tg1 iter1 (tI cls W0 fi1))
    (hg1 : ∀ (s : Shared) (H : Hp) (C : Addr) (cl : List (Str × Addr)) (fp : List Addr), PG (X.blk s H scope (compEnvC scope cl C X.env) fp) tg1 (tG ts1 ft1)) (ht1 : ∀ (s : Shared) (H : Hp) (C : Addr) (cl : List (Str × Addr)) (fp : List Addr), PTs (X.blk s H scope (compEnvC scope cl C X.env) fp) ifs1 (tT cls W0 fc1))
    (he : ∀ (s : Shared) (H : Hp) (C : Addr) (cl : List (Str × Addr)) (fp : List Addr), PE (X.blk s H scope (compEnvC scope cl C X.env) fp) elt (tE cls W0 fe)) (hsh : ShT ts ft) (hv : ∀ i ∈ vs1, i ∈ own.map (·.2) := by decide) (hts : ∀ i ∈ ts, i ∈ own.map (·.2) := by decide) (hts1 : ∀ i ∈ ts1, i ∈ vs1 := by decide) (hy : X.N[i]? = some y := by rfl) (hyl : X.env.scope.names.lookup y = some .local := by rfl)
    (hs : ∀ x, foldedSetIterable iter X.env x = pure x := by intro _; rfl) (hs1 : ∀ env x, foldedSetIterable iter1 env x = pure x := by intro _ _; rfl) :
    PS X (.Assign [.Name y py] (.ListComp elt [⟨tg, iter, ifs, 0⟩, ⟨tg1, iter1, ifs1, 0⟩] scope lpos) pos) (tS cls W (setOS i (lcO2 fi (own.map (·.2)) ft fc fi1 vs1 ft1 fc1 fe))) :=
  PS_imp (ps_setLc2 hc hN hy hyl hsw hi ok hv hg ht hi1 hg1 ht1 he hs hs1) fun D σ H h => lc2_of hts hts1 hsh σ H _ (setOS_of h)
end
end DL

set_option Elab.async false
set_option linter.all false
set_option maxRecDepth 100000
set_option maxHeartbeats 400000
/-! The data layer, part 13: several except clauses. -/
namespace DL
open PySem PySem.Spec PyProof.Rows L2
def pickH (hs : List (Nat × Sm)) (m : Nat) (ρ : Nv) (g : G) : SR := match hs with
  | [] => .ex m ρ g
  | p :: r => if m = p.1 then noEx (p.2 ρ g) else pickH r m ρ g
@[simp] theorem pickH_nil (m : Nat) (ρ : Nv) (g : G) : pickH [] m ρ g = .ex m ρ g := rfl
@[simp] theorem pickH_cons (p : Nat × Sm) (r : List (Nat × Sm)) (m : Nat) (ρ : Nv) (g : G) : pickH (p :: r) m ρ g = if m = p.1 then noEx (p.2 ρ g) else pickH r m ρ g := rfl
/-- try: body / except .. / except ..; cnt classes there are -/
@[simp] def tryM (hs : List (Nat × Sm)) (cnt : Nat) (sb : Sm) : Sm := fun ρ g => match sb ρ g with
  | .ex m ρ1 g1 => if m < cnt then pickH hs m ρ1 g1 else .bad
  | r => r
section
variable {X : Cx} {cls : Nat → Value} {W : WX} {pos : Pos}
abbrev hdT (cls : Nat → Value) (p : Nat × Sm) : Value × (Addr → Value → Option Addr → TS) := (cls p.1, fun _ _ _ => tS cls W0 p.2)
structure HdsM (X : Cx) (cls : Nat → Value) (cnt : Nat) (hds : List ExceptHandler) (hs : List (Nat × Sm)) : Prop where
  ok : HdsOk X hds (hs.map (hdT cls))
  ex : ∀ p ∈ hs, ∀ m, m < cnt → PySem.W.exmOne X.K (cls m) (cls p.1) = some (decide (m = p.1))
theorem hdsM_nil {cnt : Nat} : HdsM X cls cnt [] [] := ⟨.nil, fun _ h => nomatch h⟩
theorem hdsM_cons {cnt n : Nat} {x : Str} {np pos' : Pos} {suite : List Stmt} {b₀ : Stmt} {sh : Sm} {hds : List ExceptHandler} {hs : List (Nat × Sm)} (hx : ∀ m, m < cnt → PySem.W.exmOne X.K (cls m) (cls n) = some (decide (m = n))) (hm : X.mg x = some (cls n))
    (hsu : ∀ (a : Addr) (oe : Obj) (pn : List (Addr × Obj)), PSs (X.suite a ((a, oe) :: pn)) (b₀ :: suite) (tS cls W0 sh)) (r : HdsM X cls cnt hds hs) (hg : Gl X x := by rfl) (hd : (x == ("__debug__" : Str)) = false := by decide) :
    HdsM X cls cnt (.ExceptHandler (some (.Name x np)) none (b₀ :: suite) pos' :: hds) ((n, sh) :: hs) :=
  ⟨.cons ⟨hg, hd, .inl hm⟩ (fun a oe _ _ pn _ _ => hsu a oe pn) r.ok, fun p hp => by
    rcases List.mem_cons.mp hp with z | z
    · rw [z]; exact hx
    · exact r.ex p z⟩
theorem many_of {K : PySem.W.Frag} {B : Bs} {D : Ends} {S S' H' : Hp} {σ' : L2.St} {ρ1 : Nv} {g1 : G} {m cnt : Nat} (hmc : m < cnt) (I' : Good B σ' H' S' ρ1 g1) (e' : Same S S') : ∀ hs : List (Nat × Sm), (∀ p ∈ hs, ∀ m, m < cnt → PySem.W.exmOne K (cls m) (cls p.1) = some (decide (m = p.1))) → SO cls W B S D (pickH hs m ρ1 g1) → wMany K W D (hs.map (hdT cls)) (cls m) none σ' H'
  | [], _, h => h σ' H' S' I' e'
  | p :: r, hx, h => by
    unfold pickH at h
    rw [List.map_cons]
    refine ⟨decide (m = p.1), hx p List.mem_cons_self m hmc, fun hb a _ => ?_, fun hb => ?_⟩
    · rw [if_pos (of_decide_eq_true hb)] at h
      refine ⟨B, S', ρ1, g1, I', ?_⟩
      have h2 := SO_gr e' h
      cases eh : p.2 ρ1 g1 with
      | nx ρ2 g2 => rw [eh] at h2; exact h2
      | rt d g2 => rw [eh] at h2; exact h2
      | bk ρ2 g2 => rw [eh] at h2; exact h2
      | ct ρ2 g2 => rw [eh] at h2; exact h2
      | bad => rw [eh] at h2; exact h2
      | ex k ρ2 g2 => rw [eh] at h2; exact False.elim h2
    · rw [if_neg (of_decide_eq_false hb)] at h
      exact many_of hmc I' e' r (fun q hq => hx q (List.mem_cons_of_mem _ hq)) h
theorem psd_tryM {cnt : Nat} {body : List Stmt} {h₀ : ExceptHandler} {hds : List ExceptHandler} {hs : List (Nat × Sm)} {sb : Sm} (hst : X.stack = X.env :: X.outer) (hf : X.env.frame = some X.env.locals) (tk : Takes X W)
    (hb : ∀ (W' : WX) (pn : List (Addr × Obj)) (xe : Value → Shared → Prop), Takes (X.tr pn xe) W' → PassesOwn (model X.prog X.w) X.A X.env xe → PSs (X.tr pn xe) body (tS cls W' sb))
    (hh : HdsM X cls cnt (h₀ :: hds) hs) : PS X (.Try body (h₀ :: hds) [] [] pos) (tS cls W (tryM hs cnt sb)) :=
  PS_imp (ps_try_many (tb := fun W' => tS cls W' sb) hst hf tk hb hh.ok) fun D σ H ⟨B, S, ρ, g, I, h⟩ => by
    unfold tryM at h
    refine ⟨B, S, ρ, g, I, ?_⟩
    cases es : sb ρ g with
    | nx ρ1 g1 => rw [es] at h; exact h
    | rt d g1 => rw [es] at h; exact h
    | bk ρ1 g1 => rw [es] at h; exact h
    | ct ρ1 g1 => rw [es] at h; exact h
    | bad => rw [es] at h; exact h
    | ex m ρ1 g1 =>
      rw [es] at h
      intro σ' H' S' I' e'
      by_cases hmc : m < cnt
      · simp only [if_pos hmc] at h
        exact many_of hmc I' e' hs hh.ex h
      · simp only [if_neg hmc] at h
        exact False.elim h
end
end DL

set_option Elab.async false
set_option linter.all false
set_option maxRecDepth 100000
set_option maxHeartbeats 400000
/-! The data layer, part 14: dicts of one's own. -/
namespace DL
open PySem PySem.Spec PyProof.Rows L2
def keyD : PyData → Option Key
  | .int i => some (.inl i)
  | .str s => some (.inr s)
  | _ => none
def valK (kvs : List (Key × PyData)) (k : Key) : Option PyData := (kvs.find? fun kv => decide (kv.1 = k)).map (·.2)
def putD (kvs : List (Key × PyData)) (k : Key) (d : PyData) : List (Key × PyData) := if (kvs.any fun kv => decide (kv.1 = k)) = true then kvs.map (fun kv => if kv.1 = k then (kv.1, d) else kv) else kvs ++ [(k, d)]
abbrev KPr (S : Hp) : List (Key × PyData) → List (Key × V) → Prop := Paired (fun (p : Key × PyData) (q : Key × V) => p.1 = q.1 ∧ Rp S q.2 p.2)
theorem KPr.len {S : Hp} {kvs : List (Key × PyData)} {ws : List (Key × V)} (r : KPr S kvs ws) : kvs.length = ws.length := by
  induction r with
  | nil => rfl
  | cons _ _ ih => rw [List.length_cons, List.length_cons, ih]
theorem KPr.val {S : Hp} {kvs : List (Key × PyData)} {ws : List (Key × V)} (r : KPr S kvs ws) (k : Key) : (valK kvs k = none ∧ valV ws k = none) ∨ ∃ d v, valK kvs k = some d ∧ valV ws k = some v ∧ Rp S v d := by
  induction r with
  | nil => exact .inl ⟨rfl, rfl⟩
  | @cons p q ps qs h t ih =>
    by_cases e : p.1 = k
    · refine .inr ⟨p.2, q.2, ?_, ?_, h.2⟩
      · simp [valK, List.find?_cons, e]
      · exact valV_pos (by rw [← h.1]; exact e)
    · have e1 : valK (p :: ps) k = valK ps k := by simp [valK, List.find?_cons, e]
      have e2 : valV (q :: qs) k = valV qs k := valV_neg (by rw [← h.1]; exact e)
      rw [e1, e2]
      exact ih
theorem KPr.any {S : Hp} {kvs : List (Key × PyData)} {ws : List (Key × V)} (r : KPr S kvs ws) (k : Key) : (kvs.any fun kv => decide (kv.1 = k)) = ws.any fun kv => decide (kv.1 = k) := by
  induction r with
  | nil => rfl
  | @cons p q ps qs h t ih => rw [List.any_cons, List.any_cons, ih, h.1]
theorem KPr.repl {S : Hp} {kvs : List (Key × PyData)} {ws : List (Key × V)} {d : PyData} {v : V} (r : KPr S kvs ws) (k : Key) (hv : Rp S v d) : KPr S (kvs.map (fun kv => if kv.1 = k then (kv.1, d) else kv)) (ws.map (fun kv => if kv.1 = k then (kv.1, v) else kv)) := by
  induction r with
  | nil => exact .nil
  | @cons p q ps qs h t ih =>
    rw [List.map_cons, List.map_cons]
    refine .cons ?_ ih
    by_cases e : p.1 = k
    · rw [if_pos e, if_pos (by rw [← h.1]; exact e)]
      exact ⟨h.1, hv⟩
    · rw [if_neg e, if_neg (by rw [← h.1]; exact e)]
      exact h
theorem KPr.snoc {S : Hp} {kvs : List (Key × PyData)} {ws : List (Key × V)} {d : PyData} {v : V} (r : KPr S kvs ws) (k : Key) (hv : Rp S v d) : KPr S (kvs ++ [(k, d)]) (ws ++ [(k, v)]) := by
  induction r with
  | nil => exact .cons ⟨rfl, hv⟩ .nil
  | cons h t ih => exact .cons h ih
theorem KPr.put {S : Hp} {kvs : List (Key × PyData)} {ws : List (Key × V)} {d : PyData} {v : V} (r : KPr S kvs ws) (k : Key) (hv : Rp S v d) : KPr S (putD kvs k d) (putK ws k v) := by
  unfold putD putK
  rw [r.any k]
  by_cases e : (ws.any fun kv => decide (kv.1 = k)) = true
  · rw [if_pos e, if_pos e]; exact r.repl k hv
  · rw [if_neg e, if_neg e]; exact r.snoc k hv
theorem KPr.mono {S S' : Hp} (h : Same S S') {kvs : List (Key × PyData)} {ws : List (Key × V)} (r : KPr S kvs ws) : KPr S' kvs ws := Paired.mapP r fun _ _ z => ⟨z.1, z.2.mono h⟩
theorem key_rp {S : Hp} {v : V} {d : PyData} {k : Key} (r : Rp S v d) (e : keyD d = some k) : v = kV k := by
  cases r with
  | int i => cases e; rfl
  | str s => cases e; rfl
  | _ => cases e
section
variable {X : Cx} {cls : Nat → Value} {W : WX} {pos : Pos} {a b e : Expr} {fa fb fe : Ex} {D : Ends} {σ : L2.St} {H : Hp} {j : Nat}
@[simp] def dictO : Ow := fun _ g => .ok (.dk []) g
theorem po_dict : PE X (.Dict [] [] pos) (tO cls W dictO) := PE_imp pe_dnewK fun σ H Q ⟨B, S, ρ, g, I, h⟩ => by
  intro p hp
  obtain ⟨I2, e2⟩ := I.allocO (o := .dK []) hp
  exact h p _ _ _ I2 e2 (I.stay hp) hp upd_same (.dk .nil)
/-- e in x, e not in x: x a dict of one's own -/
def keyT (neg : Bool) (i : Nat) (f : Ex) : Te := fun ρ g => match f ρ g with
  | .ok d g1 => (match ρ[i]? with
    | some (.ow (.dk kvs)) => (match keyD d with
      | some k => .ok (if neg = true then !(valK kvs k).isSome else (valK kvs k).isSome) g1
      | none => .bad)
    | _ => .bad)
  | .ex n g1 => .ex n g1
  | .bad => .bad
theorem keyT_of {neg : Bool} {i : Nat} {Q : Bool → Hp → Prop} (h : tT cls W (keyT neg i fe) σ H Q) : tE cls W fe σ H fun y H1 => ∃ v, σ[i]? = some (some v) ∧ ∃ a o, v = .ref a ∧ DGet H1 a y o ∧ Q (if neg = true then !o.isSome else o.isSome) H1 := by
  obtain ⟨B, S, ρ, g, I, h⟩ := h
  unfold keyT at h
  refine ⟨B, S, ρ, g, I, ?_⟩
  cases ef : fe ρ g with
  | bad => rw [ef] at h; exact h
  | ex n g1 => rw [ef] at h; exact h
  | ok d g1 =>
    rw [ef] at h
    simp only at h
    split at h
    · rename_i kvs hi
      cases ek : keyD d with
      | none => rw [ek] at h; exact False.elim h
      | some k =>
        rw [ek] at h
        intro y H1 S1 I1 e1 r1
        obtain ⟨l, o, h1, h2, h3, h4, h5, h6⟩ := I1.ow i _ hi
        cases h6 with
        | @dk _ ws r0 =>
          have ey := key_rp r1 ek
          refine ⟨.ref l, h1, l, valV ws k, rfl, by rw [ey]; exact DGet.k h5, ?_⟩
          have hv : (valV ws k).isSome = (valK kvs k).isSome := by
            rcases KPr.val r0 k with ⟨v1, v2⟩ | ⟨d', v, v1, v2, _⟩
            · rw [v1, v2]; rfl
            · rw [v1, v2]; rfl
          rw [hv]
          exact h H1 S1 I1 e1
    · exact False.elim h
theorem ptd_keyNo (i : Nat) {x : Str} {p : Pos} (hr : Room j X.A) (hk : PE X e (tE cls W fe)) (hN : X.N[i]? = some x := by rfl) (hv : Vis X.env.scope x := by first | exact Or.inl rfl | exact Or.inr (Or.inl rfl) | exact Or.inr (Or.inr rfl)) (hd : (x == ("__debug__" : Str)) = false := by decide) (hcd : (x == ("__classdict__" : Str)) = false := by decide) (hm : behindInMarks .NotIn (.Name x p) = false := by first | exact nomark _ | rfl) :
    PT X (.Compare e [.NotIn] [.Name x p] pos) (tT cls W (keyT true i fe)) :=
  PT_imp (pt_cmp (pc_dnotin (by have := hu64 hr; omega) hk (pe_var hN hv hd hcd)) hm) fun σ H Q h => by
    have h := keyT_of h
    obtain ⟨B, S, ρ, g, I, h⟩ := h
    refine ⟨B, S, ρ, g, I, ?_⟩
    cases ef : fe ρ g with
    | bad => rw [ef] at h; exact h
    | ex n g1 => rw [ef] at h; exact h
    | ok d g1 =>
      rw [ef] at h
      intro y H1 S1 I1 e1 r1
      obtain ⟨v, h1, a, o, h2, h3, h4⟩ := h y H1 S1 I1 e1 r1
      exact ⟨v, h1, a, o, h2, h3, _, rfl, h4⟩
theorem ptd_keyIn (i : Nat) {x : Str} {p : Pos} (hr : Room j X.A) (hk : PE X e (tE cls W fe)) (hN : X.N[i]? = some x := by rfl) (hv : Vis X.env.scope x := by first | exact Or.inl rfl | exact Or.inr (Or.inl rfl) | exact Or.inr (Or.inr rfl)) (hd : (x == ("__debug__" : Str)) = false := by decide) (hcd : (x == ("__classdict__" : Str)) = false := by decide) (hm : behindInMarks .In (.Name x p) = false := by first | exact nomark _ | rfl) :
    PT X (.Compare e [.In] [.Name x p] pos) (tT cls W (keyT false i fe)) :=
  PT_imp (pt_cmp (pc_din (by have := hu64 hr; omega) hk (pe_var hN hv hd hcd)) hm) fun σ H Q h => by
    have h := keyT_of h
    obtain ⟨B, S, ρ, g, I, h⟩ := h
    refine ⟨B, S, ρ, g, I, ?_⟩
    cases ef : fe ρ g with
    | bad => rw [ef] at h; exact h
    | ex n g1 => rw [ef] at h; exact h
    | ok d g1 =>
      rw [ef] at h
      intro y H1 S1 I1 e1 r1
      obtain ⟨v, h1, a, o, h2, h3, h4⟩ := h y H1 S1 I1 e1 r1
      exact ⟨v, h1, a, o, h2, h3, _, rfl, h4⟩
/-- x[e], x a dict of one's own -/
def keyE (i : Nat) (f : Ex) : Ex := fun ρ g => match ρ[i]? with
  | some (.ow (.dk kvs)) => (f ρ g).bind fun d g1 => (match keyD d with
    | some k => ofO (valK kvs k) g1
    | none => .bad)
  | _ => .bad
theorem pd_key (i : Nat) {x : Str} {p : Pos} (hr : Room j X.A) (hk : PE X e (tE cls W fe)) (hN : X.N[i]? = some x := by rfl) (hv : Vis X.env.scope x := by first | exact Or.inl rfl | exact Or.inr (Or.inl rfl) | exact Or.inr (Or.inr rfl)) (hd : (x == ("__debug__" : Str)) = false := by decide) (hcd : (x == ("__classdict__" : Str)) = false := by decide) (hs : NoSl e := by exact fun _ _ => rfl) :
    PE X (.Subscript (.Name x p) e pos) (tE cls W (keyE i fe)) :=
  PE_imp (pe_dget (by have := hu64 hr; omega) (pe_var hN hv hd hcd) hk hs) fun σ H Q ⟨B, S, ρ, g, I, h⟩ => by
    unfold keyE at h
    split at h
    · rename_i kvs hi
      obtain ⟨l, o, h1, h2, h3, h4, h5, h6⟩ := I.ow i _ hi
      refine ⟨.ref l, h1, B, S, ρ, g, I, ?_⟩
      cases ef : fe ρ g with
      | bad => rw [ef] at h; exact h
      | ex n g1 => rw [ef] at h; exact h
      | ok d g1 =>
        rw [ef] at h
        simp only [R.bind_ok] at h
        cases ek : keyD d with
        | none => rw [ek] at h; exact False.elim h
        | some k =>
          rw [ek] at h
          simp only at h
          intro y H1 S1 I1 e1 r1
          have ey := key_rp r1 ek
          cases h6 with
          | @dk _ ws r0 =>
            have h5' := e1.keep l _ h5 h3
            have r0' : KPr S1 kvs ws := KPr.mono e1.base r0
            rcases KPr.val r0' k with ⟨v1, v2⟩ | ⟨d', v, v1, v2, v3⟩
            · rw [v1] at h; exact False.elim h
            · rw [v1] at h
              refine ⟨l, v, rfl, ?_, h v H1 S1 I1 e1 v3⟩
              rw [ey, ← v2]
              exact DGet.k h5'
    · exact False.elim h
/-- x[e] = v, x a dict of one's own -/
def keyS (i : Nat) (fk fv : Ex) : Sm := stE fv fun d ρ g => match fk ρ g with
  | .ok z g2 => (match ρ[i]?, keyD z with
    | some (.ow (.dk kvs)), some k => if kvs.length < big then .nx (ρ.set i (.ow (.dk (putD kvs k d)))) g2 else .bad
    | _, _ => .bad)
  | _ => .bad
theorem psd_key (i : Nat) {x : Str} {p pos' : Pos} (hr : Room j X.A) (hk : PE X b (tE cls W fb)) (ha : PE X a (tE cls W fa)) (hN : X.N[i]? = some x := by rfl) (hv : Vis X.env.scope x := by first | exact Or.inl rfl | exact Or.inr (Or.inl rfl) | exact Or.inr (Or.inr rfl)) (hd : (x == ("__debug__" : Str)) = false := by decide) (hcd : (x == ("__classdict__" : Str)) = false := by decide)
    (hs : swapsWith a (some (.Subscript (.Name x p) b pos')) pos.line X.env = pure false := by rfl) :
    PS X (.Assign [.Subscript (.Name x p) b pos'] a pos) (tS cls W (keyS i fb fa)) :=
  PS_imp (ps_dput (by have := hu64 hr; omega) (pe_var hN hv hd hcd) hk ha hs) fun D σ H h => st_of h fun B S ρ g d v H1 I r q => by
    cases ek : fb ρ g with
    | bad => rw [ek] at q; exact False.elim q
    | ex n g2 => rw [ek] at q; exact False.elim q
    | ok z g2 =>
      rw [ek] at q
      simp only at q
      split at q
      · rename_i kvs k hi hz
        by_cases hb : kvs.length < big
        · rw [if_pos hb] at q
          obtain ⟨l, o, h1, h2, h3, h4, h5, h6⟩ := I.ow i _ hi
          cases h6 with
          | @dk _ ws r0 =>
            refine ⟨.ref l, h1, B, S, ρ, g, I, ?_⟩
            rw [ek]
            intro y H2 S2 I2 e2 r2
            have ey := key_rp r2 hz
            have h5' := e2.keep l _ h5 h3
            have r0' : KPr S2 kvs ws := KPr.mono e2.base r0
            refine ⟨l, _, rfl, by rw [ey]; exact DPut.k h5' (by rw [← KPr.len r0]; exact big_lt hb), ?_⟩
            exact q _ _ _ (I2.mutO hi h1 (b' := .dk (putD kvs k d)) (.dk (r0'.put k (r.mono e2.base))) fun _ z => nomatch z) e2.base
        · rw [if_neg hb] at q; exact False.elim q
      · exact False.elim q
end
end DL

set_option Elab.async false
set_option linter.all false
set_option maxRecDepth 100000
set_option maxHeartbeats 400000
/-! The data layer, part 15: wide whole numbers, chains of three comparisons, two items of a list of one's own set at once, expressions that are never come to. -/
namespace DL
open PySem PySem.Spec PyProof.Rows L2
section
variable {X : Cx} {cls : Nat → Value} {W : WX} {pos : Pos} {a b c d : Expr} {fa fb fc fd : Ex} {k : Nat}
/-! ### wide whole numbers -/
def mulW : PyData → PyData → Option PyData
  | .int i, .int j => if i.natAbs.log2 + j.natAbs.log2 < 1000000 then some (.int (i * j)) else none
  | _, _ => none
def fdivW : PyData → PyData → Option PyData
  | .int i, .int j => if 0 < j ∧ j.natAbs.log2 < 9000 then some (.int (i / j)) else none
  | _, _ => none
theorem spec_mulW : Spec2 (rI CMulW fun i j => .int (i * j)) mulW := spec_i fun x y d e => by
  unfold mulW at e
  split at e
  · rename_i i j
    by_cases h : i.natAbs.log2 + j.natAbs.log2 < 1000000
    · rw [if_pos h] at e; cases e; exact ⟨i, j, rfl, rfl, h, rfl⟩
    · rw [if_neg h] at e; cases e
  · cases e
theorem spec_fdivW : Spec2 (rI CDivW fun i j => .int (i / j)) fdivW := spec_i fun x y d e => by
  unfold fdivW at e
  split at e
  · rename_i i j
    by_cases h : 0 < j ∧ j.natAbs.log2 < 9000
    · rw [if_pos h] at e; cases e; exact ⟨i, j, rfl, rfl, h, rfl⟩
    · rw [if_neg h] at e; cases e
  · cases e
theorem pd_mulW (ha : PE X a (tE cls W fa)) (hb : PE X b (tE cls W fb)) : PE X (.BinOp a .Mult b pos) (tE cls W (opD mulW fa fb)) := pd_bin op_mulW spec_mulW ha hb
theorem pd_fdivW (ha : PE X a (tE cls W fa)) (hb : PE X b (tE cls W fb)) : PE X (.BinOp a .FloorDiv b pos) (tE cls W (opD fdivW fa fb)) := pd_bin op_fdivW spec_fdivW ha hb
/-! ### what is never come to -/
@[simp] def badE : Ex := fun _ _ => .bad
theorem pd_never (e : Expr) : PE X e (tE cls W badE) := ⟨fun pins s σ H Q I h => by
  obtain ⟨B, S, ρ, g, _, h⟩ := h
  exact False.elim h⟩
/-! ### a op b op' c op'' d -/
def tChain3 (r r' r'' : R2) (ta tb tc td : TE) : TE := fun σ H Q => ta σ H fun x H1 => tb σ H1 fun y H2 => r x y H2 fun z H3 => ∃ k, z = .bl k ∧
  (if k = true then tc σ H3 fun w H4 => r' y w H4 fun z' H5 => ∃ k', z' = .bl k' ∧ (if k' = true then td σ H5 fun w' H6 => r'' w w' H6 Q else Q (.bl false) H5) else Q (.bl false) H3)
variable {op op' op'' : CmpOp} {o o' o'' : PyData → PyData → Option PyData}
theorem pe_chain3 {r r' r'' : R2} {ta tb tc td : TE} (ho : OpR X (compareOp op) r) (ho' : OpR X (compareOp op') r') (ho'' : OpR X (compareOp op'') r'') (ha : PE X a ta) (hb : PE X b tb) (hc : PE X c tc) (hd : PE X d td)
    (hm : lastMarks [op, op', op''] [b, c, d] = false := by with_unfolding_all rfl) : PE X (.Compare a [op, op', op''] [b, c, d] pos) (tChain3 r r' r'' ta tb tc td) := by
  refine ⟨fun pins s σ H Q I h => ?_⟩
  refine Compare_chain (thn (ha.run pins s σ H _ I h) fun v s1 ⟨x, H1, I1, r1, q1⟩ => chain_link (thn (hb.run pins s1 σ H1 _ I1 q1) fun u s2 ⟨y, H2, I2, r2, q2⟩ =>
    thn (ho pins s2 σ H2 x y v u _ I2 r1 r2 q2) fun d s3 ⟨z, H3, I3, r3, k, e, q3⟩ => ?_)) hm
  subst e
  cases r3
  refine wpAny_truthy_bool ?_
  cases k with
  | false => exact ite_ff ⟨.bl false, H3, I3, rfl, q3⟩
  | true =>
    refine ite_tt (chain_link (thn (hc.run pins s3 σ H3 _ I3 q3) fun w' s4 ⟨z', H4, I4, r4, q4⟩ => thn (ho' pins s4 σ H4 y z' u w' _ I4 r2 r4 q4) fun d' s5 ⟨z2, H5, I5, r5, k2, e2, q5⟩ => ?_))
    subst e2
    cases r5
    refine wpAny_truthy_bool ?_
    cases k2 with
    | false => exact ite_ff ⟨.bl false, H5, I5, rfl, q5⟩
    | true => exact ite_tt (chain_last (thn (hd.run pins s5 σ H5 _ I5 q5) fun w2 s6 ⟨z3, H6, I6, r6, q6⟩ => ho'' pins s6 σ H6 z' z3 w' w2 Q I6 r4 r6 q6))
@[simp] def chain3D (o o' o'' : PyData → PyData → Option PyData) (a b c d : Ex) : Ex := fun ρ g => (a ρ g).bind fun x g1 => (b ρ g1).bind fun y g2 => (ofO (o x y) g2).bind fun z g3 => match z with
  | .bool true => (c ρ g3).bind fun w g4 => (ofO (o' y w) g4).bind fun z' g5 => (match z' with
    | .bool true => (d ρ g5).bind fun w' g6 => ofO (o'' w w') g6
    | .bool false => .ok (.bool false) g5
    | _ => .bad)
  | .bool false => .ok (.bool false) g3
  | _ => .bad
theorem chain3_of {r r' r'' : R2} (s : Spec2 r o) (s' : Spec2 r' o') (s'' : Spec2 r'' o'') (σ : L2.St) (H : Hp) (Q : VK) (h : tE cls W (chain3D o o' o'' fa fb fc fd) σ H Q) : tChain3 r r' r'' (tE cls W fa) (tE cls W fb) (tE cls W fc) (tE cls W fd) σ H Q := by
  obtain ⟨B, S, ρ, g, I, h⟩ := h
  unfold chain3D at h
  refine ⟨B, S, ρ, g, I, ?_⟩
  cases ea : fa ρ g with
  | bad => rw [ea] at h; exact h
  | ex n g1 => rw [ea] at h; exact h
  | ok x g1 =>
    rw [ea] at h
    intro v H1 S1 I1 e1 r1
    refine ⟨B, S1, ρ, g1, I1, ?_⟩
    have h' := EO_gr e1 h
    simp only [R.bind_ok] at h'
    cases eb : fb ρ g1 with
    | bad => rw [eb] at h'; exact h'
    | ex n g2 => rw [eb] at h'; exact h'
    | ok y g2 =>
      rw [eb] at h'
      simp only [R.bind_ok] at h'
      intro u H2 S2 I2 e2 r2
      have h2 := EO_gr e2 h'
      cases eo : o x y with
      | none => rw [eo] at h2; exact False.elim h2
      | some d =>
        rw [eo] at h2
        simp only [ofO_some, R.bind_ok] at h2
        refine s B σ H2 S2 ρ g2 x y d v u _ eo I2 (r1.mono e2.base) r2 fun z H3 S3 I3 e3 r3 => ?_
        have h3 := EO_gr e3 h2
        cases r3 with
        | bl t =>
          refine ⟨t, rfl, ?_⟩
          cases t with
          | false => exact h3 _ H3 S3 I3 .refl (.bl _)
          | true =>
            refine ⟨B, S3, ρ, g2, I3, ?_⟩
            simp only at h3
            cases ec : fc ρ g2 with
            | bad => rw [ec] at h3; exact h3
            | ex n g4 => rw [ec] at h3; exact h3
            | ok w g4 =>
              rw [ec] at h3
              simp only [R.bind_ok] at h3
              intro q H4 S4 I4 e4 r4
              have h4 := EO_gr e4 h3
              cases eo' : o' y w with
              | none => rw [eo'] at h4; exact False.elim h4
              | some d' =>
                rw [eo'] at h4
                simp only [ofO_some, R.bind_ok] at h4
                refine s' B σ H4 S4 ρ g4 y w d' u q _ eo' I4 ((r2.mono e3.base).mono e4.base) r4 fun z' H5 S5 I5 e5 r5 => ?_
                have h5 := EO_gr e5 h4
                cases r5 with
                | bl t =>
                  refine ⟨t, rfl, ?_⟩
                  cases t with
                  | false => exact h5 _ H5 S5 I5 .refl (.bl _)
                  | true =>
                    refine ⟨B, S5, ρ, g4, I5, ?_⟩
                    simp only at h5
                    cases ed : fd ρ g4 with
                    | bad => rw [ed] at h5; exact h5
                    | ex n g6 => rw [ed] at h5; exact h5
                    | ok w' g6 =>
                      rw [ed] at h5
                      simp only [R.bind_ok] at h5
                      intro q' H6 S6 I6 e6 r6
                      have h6 := EO_gr e6 h5
                      cases eo'' : o'' w w' with
                      | none => rw [eo''] at h6; exact False.elim h6
                      | some d'' =>
                        rw [eo''] at h6
                        exact s'' B σ H6 S6 ρ g6 w w' d'' q q' Q eo'' I6 ((r4.mono e5.base).mono e6.base) r6 h6
                | _ => exact False.elim h5
        | _ => exact False.elim h3
theorem pd_chain3 (h : Cmp X op o) (h' : Cmp X op' o') (h'' : Cmp X op'' o'') (ha : PE X a (tE cls W fa)) (hb : PE X b (tE cls W fb)) (hc : PE X c (tE cls W fc)) (hd : PE X d (tE cls W fd)) (hm : lastMarks [op, op', op''] [b, c, d] = false := by with_unfolding_all rfl) :
    PE X (.Compare a [op, op', op''] [b, c, d] pos) (tE cls W (chain3D o o' o'' fa fb fc fd)) := by
  obtain ⟨r, h1, h2⟩ := h.ex
  obtain ⟨r', h3, h4⟩ := h'.ex
  obtain ⟨r'', h5, h6⟩ := h''.ex
  exact PE_imp (pe_chain3 h1 h3 h5 ha hb hc hd hm) (chain3_of h2 h4 h6)
/-! ### x[a], x[b] = v, w: x a list of one's own, a and b names -/
def swapS (i ia ib : Nat) (fv : Ex) : Sm := stE fv fun d ρ g => match d with
  | .tuple [d1, d2] => (match ρ[ia]? with
    | some (.sh (.int k)) => (match ρ[ib]? with
      | some (.sh (.int l)) => (match ρ[i]? with
        | some (.ow (.lst ds)) => (match L2.ixN ds.length k with
          | some m => (match L2.ixN ds.length l with
            | some n => .nx (ρ.set i (.ow (.lst ((ds.set m d1).set n d2)))) g
            | none => .bad)
          | none => .bad)
        | _ => .bad)
      | _ => .bad)
    | _ => .bad)
  | _ => .bad
theorem psd_swap (i ia ib : Nat) {x ka kb : Str} {p q pa pb s1 s2 pt : Pos} {kt : Nat} (hc : X.calm = true) (ha : PE X a (tE cls W fa)) (hN : X.N[i]? = some x := by rfl) (hNa : X.N[ia]? = some ka := by rfl) (hNb : X.N[ib]? = some kb := by rfl)
    (hv : Vis X.env.scope x := by first | exact Or.inl rfl | exact Or.inr (Or.inl rfl) | exact Or.inr (Or.inr rfl)) (hva : Vis X.env.scope ka := by first | exact Or.inl rfl | exact Or.inr (Or.inl rfl) | exact Or.inr (Or.inr rfl)) (hvb : Vis X.env.scope kb := by first | exact Or.inl rfl | exact Or.inr (Or.inl rfl) | exact Or.inr (Or.inr rfl))
    (hd : (x == ("__debug__" : Str)) = false := by decide) (hcd : (x == ("__classdict__" : Str)) = false := by decide) (hda : (ka == ("__debug__" : Str)) = false := by decide) (hcda : (ka == ("__classdict__" : Str)) = false := by decide) (hdb : (kb == ("__debug__" : Str)) = false := by decide) (hcdb : (kb == ("__classdict__" : Str)) = false := by decide)
    (h0 : ∀ v, assign (.Subscript (.Name x p) (.Name ka pa) s1) X.env v = (do
      let ov ← holding [v] (eval (.Name x p) X.env)
      let iv ← holding [v, ov] (eval (.Name ka pa) X.env)
      standAt s1
      holding [v, ov, iv] (setItem ov iv v)
      release [v, ov, iv] []) := by intro _; rfl)
    (h0' : ∀ v, assign (.Subscript (.Name x q) (.Name kb pb) s2) X.env v = (do
      let ov ← holding [v] (eval (.Name x q) X.env)
      let iv ← holding [v, ov] (eval (.Name kb pb) X.env)
      standAt s2
      holding [v, ov, iv] (setItem ov iv v)
      release [v, ov, iv] []) := by intro _; rfl)
    (g1 : (assignEach [.Subscript (.Name x p) (.Name ka pa) s1, .Subscript (.Name x q) (.Name kb pb) s2] X.env).map (·.2) = assign (.Subscript (.Name x p) (.Name ka pa) s1) X.env :: (assignEach [.Subscript (.Name x q) (.Name kb pb) s2] X.env).map (·.2) := by rfl)
    (g2 : (assignEach [.Subscript (.Name x q) (.Name kb pb) s2] X.env).map (·.2) = assign (.Subscript (.Name x q) (.Name kb pb) s2) X.env :: (assignEach [] X.env).map (·.2) := by rfl)
    (hn : (assignEach [.Subscript (.Name x p) (.Name ka pa) s1, .Subscript (.Name x q) (.Name kb pb) s2] X.env).length = 2 := by rfl) (hst : (assignEach [.Subscript (.Name x p) (.Name ka pa) s1, .Subscript (.Name x q) (.Name kb pb) s2] X.env).findIdx? (·.1) = none := by rfl)
    (hs : swapsWithSole [.Tuple [.Subscript (.Name x p) (.Name ka pa) s1, .Subscript (.Name x q) (.Name kb pb) s2] kt pt] a pos.line X.env = pure false := by rfl) (hw : swappedStores [.Tuple [.Subscript (.Name x p) (.Name ka pa) s1, .Subscript (.Name x q) (.Name kb pb) s2] kt pt] a X.env = pure none := by rfl)
    (h1 : (assignEach [.Tuple [.Subscript (.Name x p) (.Name ka pa) s1, .Subscript (.Name x q) (.Name kb pb) s2] kt pt] X.env).map (·.2) = [assign (.Tuple [.Subscript (.Name x p) (.Name ka pa) s1, .Subscript (.Name x q) (.Name kb pb) s2] kt pt) X.env] := by rfl) :
    PS X (.Assign [.Tuple [.Subscript (.Name x p) (.Name ka pa) s1, .Subscript (.Name x q) (.Name kb pb) s2] kt pt] a pos) (tS cls W (swapS i ia ib fa)) :=
  PS_imp (ps_asg ha (pg_tup hc (pgs_cons (pg_sub (pe_var hN hv hd hcd) (pe_var hNa hva hda hcda) set_list h0) (pgs_cons (pg_sub (pe_var hN hv hd hcd) (pe_var hNb hvb hdb hcdb) set_list h0') pgs_nil g2) g1) hn hst) hs hw h1) fun D σ H h => st_of h fun B S ρ g d v H1 I r z => by
    split at z
    · rename_i d1 d2
      split at z
      · rename_i k ek
        split at z
        · rename_i l el
          split at z
          · rename_i ds ei
            split at z
            · rename_i m em
              split at z
              · rename_i n en
                cases r with
                | @tup t xs _ hx qx =>
                  cases qx with
                  | @cons v1 _ vs1 _ r1 rr =>
                    cases rr with
                    | @cons v2 _ vs2 _ r2 rr2 =>
                      cases rr2
                      obtain ⟨A, ob, k1, k2, k3, k4, k5, k6⟩ := I.ow i _ ei
                      cases k6 with
                      | @lst _ vs rv =>
                        obtain ⟨w1, j1, j2⟩ := I.sh ia _ ek
                        cases j2
                        have I2 := I.mutO ei k1 (.lst (rv.set m r1)) fun _ z => nomatch z
                        have hia : ia ≠ i := fun y => by rw [y, ei] at ek; cases ek
                        have hib : ib ≠ i := fun y => by rw [y, ei] at el; cases el
                        have hil : i < ρ.length := (List.getElem?_eq_some_iff.mp ei).1
                        obtain ⟨w2, j3, j4⟩ := I.sh ib _ el
                        cases j4
                        have rv2 := rv.set m r1
                        have e2 : (ρ.set i (.ow (.lst (ds.set m d1))))[i]? = some (.ow (.lst (ds.set m d1))) := List.getElem?_set_self hil
                        have I3 := I2.mutO e2 k1 (.lst (rv2.set n r2)) fun _ z => nomatch z
                        rw [List.set_set] at I3
                        refine ⟨t, [v1, v2], rfl, .of (I.sub _ _ hx), rfl, v1, [v2], rfl, .ref A, k1, .int k, j1, A, vs, k, m, rfl, rfl, k5, by rw [rv.length]; exact em, v2, [], rfl, .ref A, k1, .int l, j3, A, vs.set m v1, l, n, rfl, rfl, upd_same, by rw [List.length_set, rv.length]; exact en, rfl, ?_⟩
                        exact z _ _ _ I3 (.refl _)
              · exact False.elim z
            · exact False.elim z
          · exact False.elim z
        · exact False.elim z
      · exact False.elim z
    · exact False.elim z
end
end DL

set_option Elab.async false
set_option linter.all false
set_option maxRecDepth 100000
set_option maxHeartbeats 1000000
namespace K
open PySem PySem.Spec PyProof.Rows L2 DL
def topS (i : Nat) : Stmt := PySem.Challenge.pw_everypurse_k00_lotteries_and_plans.main.body.getD i (.Pass ⟨0, 0, 0, 0⟩)
/-- how a def stands behind the top -/
abbrev Df (K : PySem.W.Frag) (mg : Str → Option Value) (x : Str) (st : Stmt) (ps : List Str) : Prop := ∃ (f : Addr) (fd : FuncData), Fun K x x st f fd ∧ mg x = some (.ref f) ∧ L2.Binds K fd ps []
structure Tx (K : PySem.W.Frag) (mg : Str → Option Value) (cls : Nat → Value) : Prop where
  n_abs : mg "abs" = none
  n_bool : mg "bool" = none
  n_int : mg "int" = none
  n_isinstance : mg "isinstance" = none
  n_len : mg "len" = none
  n_list : mg "list" = none
  n_range : mg "range" = none
  n_str : mg "str" = none
  n_sum : mg "sum" = none
  n_tuple : mg "tuple" = none
  c_MOST_AMOUNT : ∃ t, mg "MOST_AMOUNT" = some (.int 8 t)
  c_MOST_PLACES : ∃ t, mg "MOST_PLACES" = some (.int 60 t)
  c_MOST_ROOMS : ∃ t, mg "MOST_ROOMS" = some (.int 8 t)
  c_MOST_SHARE : ∃ t, mg "MOST_SHARE" = some (.int 20 t)
  c_MOST_STEPS : ∃ t, mg "MOST_STEPS" = some (.int 40 t)
  c_MOST_WAYS : ∃ t, mg "MOST_WAYS" = some (.int 24 t)
  e_0 : ExcN K mg cls 0 "BadProgram"
  x_0 : ∀ m, m < 2 → PySem.W.exmOne K (cls m) (cls 0) = some (decide (m = 0))
  g_0 : mg "BadProgram" = some (cls 0)
  e_1 : ExcN K mg cls 1 "BadArgument"
  x_1 : ∀ m, m < 2 → PySem.W.exmOne K (cls m) (cls 1) = some (decide (m = 1))
  g_1 : mg "BadArgument" = some (cls 1)
section
variable {P : Program} {w : World} {K : PySem.W.Frag} {mg : Str → Option Value} {base : Heap} {cls : Nat → Value}
abbrev s_law_mixed : Stmt := topS 45
abbrev N_law_mixed : List Str := ["number", "k", "step"]
theorem sc_law_mixed : FnScope N_law_mixed ["number", "k"] (defScope s_law_mixed) := ⟨rfl, rfl, rfl, by decide +kernel, rfl, by decide +kernel, by decide +kernel⟩
noncomputable def b_law_mixed : Sm := (seqS (setS 2 (opD modD (opD addD (opD addD (opD mulD (varD 0) (constD (.int 48271))) (opD mulD (varD 1) (constD (.int 69621)))) (constD (.int 12345))) (constD (.int 2147483647))))
  (retS (opD modD (opD addD (opD mulD (varD 2) (opD addD (opD fdivD (varD 2) (constD (.int 65536))) (constD (.int 3)))) (varD 1)) (constD (.int 2147483647)))))
noncomputable def m_law_mixed : Fn := fnD 1 false b_law_mixed
theorem ok_law_mixed (T : Tx K mg cls) (D : Df K mg "_law_mixed" s_law_mixed ["number", "k"])  : Kept P w K mg base cls "_law_mixed" ["number", "k"] false m_law_mixed 1 :=
  fn_ok (body := b_law_mixed) D sc_law_mixed fun f cdv A outer s H E hr => by
    have tk := takes_of (X := cxOf (L2.CX P w) P w K mg base N_law_mixed "_law_mixed" (defScope s_law_mixed) f cdv A outer s H E) (E := E) rfl rfl rfl rfl
    have hp := passes_of (X := cxOf (L2.CX P w) P w K mg base N_law_mixed "_law_mixed" (defScope s_law_mixed) f cdv A outer s H E) rfl
    exact (pssd_cons (psd_set 2 sc_law_mixed.nd (pd_mod (pd_add (pd_add (pd_mul (pd_var 0) pd_int) (pd_mul (pd_var 1) pd_int)) pd_int) pd_int))
    (pssd_one (psd_ret (pd_mod (pd_add (pd_mul (pd_var 2) (pd_add (pd_fdiv (pd_var 2) pd_int) pd_int)) (pd_var 1)) pd_int))))
abbrev s_law_draw : Stmt := topS 47
abbrev N_law_draw : List Str := ["draws", "at", "first"]
theorem sc_law_draw : FnScope N_law_draw ["draws"] (defScope s_law_draw) := ⟨rfl, rfl, rfl, by decide +kernel, rfl, by decide +kernel, by decide +kernel⟩
noncomputable def b_law_draw : Sm := (seqS (setS 1 (dr1 0))
  (seqS (drSetS 0 (opD addD (varD 1) (constD (.int 1))))
  (seqS (ifS (boolD (opD (cmpD fun i j => decide (i < j)) (varD 1) (unD lenD (dr0 0))))
  (retS (opD ixD (dr0 0) (varD 1)))
  nextS)
  (seqS (setS 2 (opD addD (constD (.int 1)) (varD 1)))
  (seqS (ifS (boolD (opD (cmpD fun i j => decide (j < i)) (unD lenD (dr0 0)) (constD (.int 0))))
  (setS 2 (opD addD (varD 2) (opD mulD (constD (.int 1009)) (opD ixD (dr0 0) (constD (.int 0))))))
  nextS)
  (retS (opD modD (callD 2 m_law_mixed (consD (callD 2 m_law_mixed (consD (varD 2) (consD (varD 1) nilD))) (consD (constD (.int 5)) nilD))) (constD (.int 1000000)))))))))
noncomputable def m_law_draw : Fn := fnD 2 true b_law_draw
theorem ok_law_draw (T : Tx K mg cls) (D : Df K mg "_law_draw" s_law_draw ["draws"]) (k_law_mixed : Kept P w K mg base cls "_law_mixed" ["number", "k"] false m_law_mixed 1) : Kept P w K mg base cls "_law_draw" ["draws"] true m_law_draw 2 :=
  fn_ok (body := b_law_draw) D sc_law_draw fun f cdv A outer s H E hr => by
    have tk := takes_of (X := cxOf (L2.CX P w) P w K mg base N_law_draw "_law_draw" (defScope s_law_draw) f cdv A outer s H E) (E := E) rfl rfl rfl rfl
    have hp := passes_of (X := cxOf (L2.CX P w) P w K mg base N_law_draw "_law_draw" (defScope s_law_draw) f cdv A outer s H E) rfl
    exact (pssd_cons (psd_set 1 sc_law_draw.nd (pd_dr1 0))
    (pssd_cons (psd_drSet 0 (pd_add (pd_var 1) pd_int))
    (pssd_cons (psd_if (ptd_cmp c_lt (pd_var 1) (pd_len T.n_len (pd_dr0 0)))
    (pssd_one (psd_ret (pd_ix (pd_dr0 0) (pd_var 1))))
    pssd_nil)
    (pssd_cons (psd_set 2 sc_law_draw.nd (pd_add pd_int (pd_var 1)))
    (pssd_cons (psd_if (ptd_cmp c_gt (pd_len T.n_len (pd_dr0 0)) pd_int)
    (pssd_one (psd_set 2 sc_law_draw.nd (pd_add (pd_var 2) (pd_mul pd_int (pd_ix (pd_dr0 0) pd_int)))))
    pssd_nil)
    (pssd_one (psd_ret (pd_mod (pd_call k_law_mixed hr (by decide) tk (pad_cons (pd_call k_law_mixed hr (by decide) tk (pad_cons (pd_var 2) (pad_cons (pd_var 1) pad_nil))) (pad_cons pd_int pad_nil))) pd_int))))))))
abbrev s_law_spoilt : Stmt := topS 63
abbrev N_law_spoilt : List Str := ["draws", "lottery", "k", "turned", "others", "owners", "ways", "source", "target", "amount", "share"]
theorem sc_law_spoilt : FnScope N_law_spoilt ["draws", "lottery"] (defScope s_law_spoilt) := ⟨rfl, rfl, rfl, by decide +kernel, rfl, by decide +kernel, by decide +kernel⟩
noncomputable def b_law_spoilt : Sm := (seqS (asgS (varD 1) (tupT (consT (nameT 5) (consT (nameT 6) nilT))))
  (seqS (setS 2 (opD modD (callG 1 0 m_law_draw nilD) (unD lenD (varD 6))))
  (seqS (asgS (opD ixD (varD 6) (varD 2)) (tupT (consT (nameT 7) (consT (nameT 8) (consT (nameT 9) (consT (nameT 10) nilT))))))
  (seqS (setS 3 (shareO (lstO (consD (tupD (consD (unD lenD (varD 5)) (consD (varD 8) (consD (varD 9) (consD (varD 10) nilD))))) (consD (tupD (consD (varD 7) (consD (unD negD (constD (.int 1))) (consD (varD 9) (consD (varD 10) nilD))))) (consD (tupD (consD (varD 7) (consD (varD 8) (consD (constD (.int 9)) (consD (varD 10) nilD))))) (consD (tupD (consD (varD 7) (consD (varD 8) (consD (varD 9) (consD (tupD (consD (constD (.int 2)) (consD (constD (.int 4)) nilD))) nilD))))) (consD (tupD (consD (varD 7) (consD (varD 8) (consD (varD 9) (consD (tupD (consD (constD (.int 0)) (consD (constD (.int 1)) nilD))) nilD))))) (consD (tupD (consD (varD 7) (consD (varD 8) (consD (varD 9) (consD (tupD (consD (constD (.int 3)) (consD (constD (.int 2)) nilD))) nilD))))) (consD (tupD (consD (varD 7) (consD (varD 8) (consD (varD 9) (consD (tupD (consD (constD (.int 1)) (consD (constD (.int 21)) nilD))) nilD))))) (consD (tupD (consD (varD 7) (consD (varD 8) (consD (constD (.bool true)) (consD (varD 10) nilD))))) (consD (shareO (lstO (consD (varD 7) (consD (varD 8) (consD (varD 9) (consD (varD 10) nilD)))))) (consD (tupD (consD (varD 7) (consD (varD 8) (consD (varD 9) nilD)))) (consD (constD .none) nilD))))))))))))))
  (seqS (setS 4 (shareO (lstO (consD (tupD (consD (varD 5) (consD (opD addD (opD addD (slD (varD 6) noPart (somePart (varD 2))) (tupD (consD (opD ixD (varD 3) (opD modD (callG 1 0 m_law_draw nilD) (unD lenD (varD 3)))) nilD))) (slD (varD 6) (somePart (opD addD (varD 2) (constD (.int 1)))) noPart)) nilD))) (consD (tupD (consD (opD addD (varD 5) (tupD (consD (constD (.int 1)) nilD))) (consD (varD 6) nilD))) (consD (tupD (consD (opD addD (varD 5) (tupD (consD (constD (.int 0)) nilD))) (consD (varD 6) nilD))) (consD (shareO (lstO (consD (varD 5) (consD (varD 6) nilD)))) (consD (tupD (consD (varD 5) (consD (unD listD (varD 6)) nilD))) (consD (tupD (consD (unD listD (varD 5)) (consD (varD 6) nilD))) (consD (tupD (consD (varD 5) (consD (tupD nilD) nilD))) (consD (tupD (consD (tupD nilD) (consD (varD 6) nilD))) (consD (tupD (consD (varD 5) (consD (varD 6) (consD (tupD nilD) nilD)))) (consD (constD .none) (consD (tupD (consD (varD 5) (consD (opD mulD (varD 6) (constD (.int 25))) nilD))) nilD))))))))))))))
  (retS (opD ixD (varD 4) (opD ixD (shareO (lstO (consD (constD (.int 0)) (consD (opD modD (callG 1 0 m_law_draw nilD) (unD lenD (varD 4))) nilD)))) (opD modD (callG 1 0 m_law_draw nilD) (constD (.int 2)))))))))))
noncomputable def m_law_spoilt : Fn := fnD 9 true b_law_spoilt
theorem ok_law_spoilt (T : Tx K mg cls) (D : Df K mg "_law_spoilt" s_law_spoilt ["draws", "lottery"]) (k_law_draw : Kept P w K mg base cls "_law_draw" ["draws"] true m_law_draw 2) : Kept P w K mg base cls "_law_spoilt" ["draws", "lottery"] true m_law_spoilt 3 :=
  fn_ok (body := b_law_spoilt) D sc_law_spoilt fun f cdv A outer s H E hr => by
    have tk := takes_of (X := cxOf (L2.CX P w) P w K mg base N_law_spoilt "_law_spoilt" (defScope s_law_spoilt) f cdv A outer s H E) (E := E) rfl rfl rfl rfl
    have hp := passes_of (X := cxOf (L2.CX P w) P w K mg base N_law_spoilt "_law_spoilt" (defScope s_law_spoilt) f cdv A outer s H E) rfl
    exact (pssd_cons (psd_asg (pd_var 1) (pgd_tup rfl (pgsd_cons (pgd_name 5 sc_law_spoilt.nd) (pgsd_cons (pgd_name 6 sc_law_spoilt.nd) pgsd_nil)) len2))
    (pssd_cons (psd_set 2 sc_law_spoilt.nd (pd_mod (pd_callG 0 k_law_draw hr (by decide) tk pad_nil) (pd_len T.n_len (pd_var 6))))
    (pssd_cons (psd_asg (pd_ix (pd_var 6) (pd_var 2)) (pgd_tup rfl (pgsd_cons (pgd_name 7 sc_law_spoilt.nd) (pgsd_cons (pgd_name 8 sc_law_spoilt.nd) (pgsd_cons (pgd_name 9 sc_law_spoilt.nd) (pgsd_cons (pgd_name 10 sc_law_spoilt.nd) pgsd_nil)))) len4))
    (pssd_cons (psd_set 3 sc_law_spoilt.nd (pd_share (po_lst (pad_cons (pd_tup (pad_cons (pd_len T.n_len (pd_var 5)) (pad_cons (pd_var 8) (pad_cons (pd_var 9) (pad_cons (pd_var 10) pad_nil))))) (pad_cons (pd_tup (pad_cons (pd_var 7) (pad_cons (pd_neg pd_int) (pad_cons (pd_var 9) (pad_cons (pd_var 10) pad_nil))))) (pad_cons (pd_tup (pad_cons (pd_var 7) (pad_cons (pd_var 8) (pad_cons pd_int (pad_cons (pd_var 10) pad_nil))))) (pad_cons (pd_tup (pad_cons (pd_var 7) (pad_cons (pd_var 8) (pad_cons (pd_var 9) (pad_cons (pd_tup (pad_cons pd_int (pad_cons pd_int pad_nil))) pad_nil))))) (pad_cons (pd_tup (pad_cons (pd_var 7) (pad_cons (pd_var 8) (pad_cons (pd_var 9) (pad_cons (pd_tup (pad_cons pd_int (pad_cons pd_int pad_nil))) pad_nil))))) (pad_cons (pd_tup (pad_cons (pd_var 7) (pad_cons (pd_var 8) (pad_cons (pd_var 9) (pad_cons (pd_tup (pad_cons pd_int (pad_cons pd_int pad_nil))) pad_nil))))) (pad_cons (pd_tup (pad_cons (pd_var 7) (pad_cons (pd_var 8) (pad_cons (pd_var 9) (pad_cons (pd_tup (pad_cons pd_int (pad_cons pd_int pad_nil))) pad_nil))))) (pad_cons (pd_tup (pad_cons (pd_var 7) (pad_cons (pd_var 8) (pad_cons pd_bl (pad_cons (pd_var 10) pad_nil))))) (pad_cons (pd_share (po_lst (pad_cons (pd_var 7) (pad_cons (pd_var 8) (pad_cons (pd_var 9) (pad_cons (pd_var 10) pad_nil)))))) (pad_cons (pd_tup (pad_cons (pd_var 7) (pad_cons (pd_var 8) (pad_cons (pd_var 9) pad_nil)))) (pad_cons pd_non pad_nil))))))))))))))
    (pssd_cons (psd_set 4 sc_law_spoilt.nd (pd_share (po_lst (pad_cons (pd_tup (pad_cons (pd_var 5) (pad_cons (pd_add (pd_add (pd_slice (pd_var 6) po_no (po_so (pd_var 2))) (pd_tup (pad_cons (pd_ix (pd_var 3) (pd_mod (pd_callG 0 k_law_draw hr (by decide) tk pad_nil) (pd_len T.n_len (pd_var 3)))) pad_nil))) (pd_slice (pd_var 6) (po_so (pd_add (pd_var 2) pd_int)) po_no)) pad_nil))) (pad_cons (pd_tup (pad_cons (pd_add (pd_var 5) (pd_tup (pad_cons pd_int pad_nil))) (pad_cons (pd_var 6) pad_nil))) (pad_cons (pd_tup (pad_cons (pd_add (pd_var 5) (pd_tup (pad_cons pd_int pad_nil))) (pad_cons (pd_var 6) pad_nil))) (pad_cons (pd_share (po_lst (pad_cons (pd_var 5) (pad_cons (pd_var 6) pad_nil)))) (pad_cons (pd_tup (pad_cons (pd_var 5) (pad_cons (pd_list T.n_list (pd_var 6)) pad_nil))) (pad_cons (pd_tup (pad_cons (pd_list T.n_list (pd_var 5)) (pad_cons (pd_var 6) pad_nil))) (pad_cons (pd_tup (pad_cons (pd_var 5) (pad_cons (pd_tup pad_nil) pad_nil))) (pad_cons (pd_tup (pad_cons (pd_tup pad_nil) (pad_cons (pd_var 6) pad_nil))) (pad_cons (pd_tup (pad_cons (pd_var 5) (pad_cons (pd_var 6) (pad_cons (pd_tup pad_nil) pad_nil)))) (pad_cons pd_non (pad_cons (pd_tup (pad_cons (pd_var 5) (pad_cons (pd_mul (pd_var 6) pd_int) pad_nil))) pad_nil))))))))))))))
    (pssd_one (psd_ret (pd_ix (pd_var 4) (pd_ix (pd_share (po_lst (pad_cons pd_int (pad_cons (pd_mod (pd_callG 0 k_law_draw hr (by decide) tk pad_nil) (pd_len T.n_len (pd_var 4))) pad_nil)))) (pd_mod (pd_callG 0 k_law_draw hr (by decide) tk pad_nil) pd_int))))))))))
abbrev s_law_numbers : Stmt := topS 46
abbrev N_law_numbers : List Str := ["script", "numbers", "cell", "rest", "k"]
theorem sc_law_numbers : FnScope N_law_numbers ["script"] (defScope s_law_numbers) := ⟨rfl, rfl, rfl, by decide +kernel, rfl, by decide +kernel, by decide +kernel⟩
noncomputable def b_law_numbers : Sm := (ifS (boolD (opD (cmpD fun i j => decide (j ≤ i)) (varD 2) (opD powD (constD (.int 10)) (constD (.int 18)))))
  (seqS (setS 3 (varD 2))
  (forS (rangeD (constD (.int 60))) (nameT 4)
  (ifS (boolD (opD (cmpD fun i j => decide (j < i)) (varD 3) (constD (.int 0))))
  (seqS (appS 1 (opD modD (varD 3) (constD (.int 1000000))))
  (setS 3 (opD fdivD (varD 3) (constD (.int 1000000)))))
  nextS)))
  (seqS (appS 1 (opD modD (varD 2) (constD (.int 1000000))))
  (forS (rangeD (constD (.int 5))) (nameT 4)
  (appS 1 (opD modD (callD 2 m_law_mixed (consD (callD 2 m_law_mixed (consD (opD modD (varD 2) (constD (.int 2147483647))) (consD (varD 4) nilD))) (consD (opD addD (varD 4) (constD (.int 7))) nilD))) (constD (.int 1000000)))))))
def t_law_numbers : Tg := (nameT 2)
theorem ok_law_numbers (T : Tx K mg cls) (D : Df K mg "_law_numbers" s_law_numbers ["script"]) (k_law_mixed : Kept P w K mg base cls "_law_mixed" ["number", "k"] false m_law_mixed 1)
    (hm : ∀ ns : List Int, ns.length ≤ 63 → ∃ (ms : List Int) (ρ' : Nv), Small ms ∧ forD t_law_numbers b_law_numbers (ns.map PyData.int) (.sc :: .ow (.lst []) :: List.replicate 3 .no) none = .nx ρ' none ∧ ρ'[1]? = some (.ow (.lst (ms.map PyData.int)))) :
    ∃ (f : Addr) (fd : FuncData), mg "_law_numbers" = some (.ref f) ∧ PySem.W.keepIn K (.ref f) = true ∧ L2.Binds K fd ["script"] [] ∧ FnOk P w K mg base (L2.CX P w) 2 f fd ["script"] (spNum K) :=
  num_ok (t := t_law_numbers) (sb := b_law_numbers) D sc_law_numbers (fun f cdv A outer s H E ns hr => by
    have tk := takes_of (X := cxOf (L2.CX P w) P w K mg base N_law_numbers "_law_numbers" (defScope s_law_numbers) f cdv A outer s H E) (E := E) rfl rfl rfl rfl
    have hp := passes_of (X := cxOf (L2.CX P w) P w K mg base N_law_numbers "_law_numbers" (defScope s_law_numbers) f cdv A outer s H E) rfl
    exact pss_cons (psd_setO 1 sc_law_numbers.nd (po_lst pad_nil)) (pss_cons (psd_forSc 0 hp rfl (pgd_name 2 sc_law_numbers.nd)
    (pssd_one (psd_if (ptd_cmp c_ge (pd_var 2) (pd_pow pd_int pd_int))
    (pssd_cons (psd_set 3 sc_law_numbers.nd (pd_var 2))
    (pssd_one (psd_for hp rfl (pid_range T.n_range pd_int) (pgd_name 4 sc_law_numbers.nd)
    (pssd_one (psd_if (ptd_cmp c_gt (pd_var 3) pd_int)
    (pssd_cons (psd_app 1 (pd_mod (pd_var 3) pd_int))
    (pssd_one (psd_set 3 sc_law_numbers.nd (pd_fdiv (pd_var 3) pd_int))))
    pssd_nil)))))
    (pssd_cons (psd_app 1 (pd_mod (pd_var 2) pd_int))
    (pssd_one (psd_for hp rfl (pid_range T.n_range pd_int) (pgd_name 4 sc_law_numbers.nd)
    (pssd_one (psd_app 1 (pd_mod (pd_call k_law_mixed hr (by decide) tk (pad_cons (pd_call k_law_mixed hr (by decide) tk (pad_cons (pd_mod (pd_var 2) pd_int) (pad_cons (pd_var 4) pad_nil))) (pad_cons (pd_add (pd_var 4) pd_int) pad_nil))) pd_int))))))))) (pssd_shut 1 (pssd_one (psd_ret (pd_var 1)))))) hm
abbrev s_law_divisor : Stmt := topS 50
abbrev N_law_divisor : List Str := ["a", "b"]
theorem sc_law_divisor : FnScope N_law_divisor ["a", "b"] (defScope s_law_divisor) := ⟨rfl, rfl, rfl, by decide +kernel, rfl, by decide +kernel, by decide +kernel⟩
noncomputable def b_law_divisor : Sm := (seqS (whileS (boolD (opD neD (varD 1) (constD (.int 0))))
  (parS 0 1 (varD 1) (opD modD (varD 0) (varD 1))))
  (retS (varD 0)))
noncomputable def m_law_divisor : Fn := fnD 0 false b_law_divisor
theorem ok_law_divisor (T : Tx K mg cls) (D : Df K mg "_law_divisor" s_law_divisor ["a", "b"])  : Kept P w K mg base cls "_law_divisor" ["a", "b"] false m_law_divisor 1 :=
  fn_ok (body := b_law_divisor) D sc_law_divisor fun f cdv A outer s H E hr => by
    have tk := takes_of (X := cxOf (L2.CX P w) P w K mg base N_law_divisor "_law_divisor" (defScope s_law_divisor) f cdv A outer s H E) (E := E) rfl rfl rfl rfl
    have hp := passes_of (X := cxOf (L2.CX P w) P w K mg base N_law_divisor "_law_divisor" (defScope s_law_divisor) f cdv A outer s H E) rfl
    exact (pssd_cons (psd_while hp (ptd_cmp (c_ne hr) (pd_var 1) pd_int)
    (pssd_one (psd_par 0 1 rfl sc_law_divisor.nd (pd_var 1) (pd_mod (pd_var 0) (pd_var 1)))))
    (pssd_one (psd_ret (pd_var 0))))
abbrev s_law_part : Stmt := topS 51
abbrev N_law_part : List Str := ["p", "q", "shared"]
theorem sc_law_part : FnScope N_law_part ["p", "q"] (defScope s_law_part) := ⟨rfl, rfl, rfl, by decide +kernel, rfl, by decide +kernel, by decide +kernel⟩
noncomputable def b_law_part : Sm := (seqS (ifS (boolD (opD (cmpD fun i j => decide (i < j)) (varD 1) (constD (.int 0))))
  (parS 0 1 (opD subD (constD (.int 0)) (varD 0)) (opD subD (constD (.int 0)) (varD 1)))
  nextS)
  (seqS (setS 2 (callD 2 m_law_divisor (consD (unD absD (varD 0)) (consD (varD 1) nilD))))
  (retS (tupD (consD (opD fdivW (varD 0) (varD 2)) (consD (opD fdivW (varD 1) (varD 2)) nilD))))))
noncomputable def m_law_part : Fn := fnD 1 false b_law_part
theorem ok_law_part (T : Tx K mg cls) (D : Df K mg "_law_part" s_law_part ["p", "q"]) (k_law_divisor : Kept P w K mg base cls "_law_divisor" ["a", "b"] false m_law_divisor 1) : Kept P w K mg base cls "_law_part" ["p", "q"] false m_law_part 2 :=
  fn_ok (body := b_law_part) D sc_law_part fun f cdv A outer s H E hr => by
    have tk := takes_of (X := cxOf (L2.CX P w) P w K mg base N_law_part "_law_part" (defScope s_law_part) f cdv A outer s H E) (E := E) rfl rfl rfl rfl
    have hp := passes_of (X := cxOf (L2.CX P w) P w K mg base N_law_part "_law_part" (defScope s_law_part) f cdv A outer s H E) rfl
    exact (pssd_cons (psd_if (ptd_cmp c_lt (pd_var 1) pd_int)
    (pssd_one (psd_par 0 1 rfl sc_law_part.nd (pd_sub pd_int (pd_var 0)) (pd_sub pd_int (pd_var 1))))
    pssd_nil)
    (pssd_cons (psd_set 2 sc_law_part.nd (pd_call k_law_divisor hr (by decide) tk (pad_cons (pd_abs T.n_abs (pd_var 0)) (pad_cons (pd_var 1) pad_nil))))
    (pssd_one (psd_ret (pd_tup (pad_cons (pd_fdivW (pd_var 0) (pd_var 2)) (pad_cons (pd_fdivW (pd_var 1) (pd_var 2)) pad_nil)))))))
abbrev s_law_lottery : Stmt := topS 55
abbrev N_law_lottery : List Str := ["draws", "most", "n", "owners", "wide", "near", "ways", "room", "k", "weights", "weight", "j", "target", "share"]
theorem sc_law_lottery : FnScope N_law_lottery ["draws", "most"] (defScope s_law_lottery) := ⟨rfl, rfl, rfl, by decide +kernel, rfl, by decide +kernel, by decide +kernel⟩
noncomputable def b_law_lottery : Sm := (seqS (setS 2 (opD addD (constD (.int 1)) (opD modD (callG 1 0 m_law_draw nilD) (varD 1))))
  (seqS (setS 3 (unD tupleD (shareO (lcO (rangeD (varD 2)) [7] (nameT 7) yesT (opD ixD (shareO (lstO (consD (constD (.int 0)) (consD (constD (.int 2)) (consD (constD (.int 2)) nilD))))) (opD modD (callG 1 0 m_law_draw nilD) (constD (.int 3))))))))
  (seqS (setS 4 (opD ixD (shareO (lstO (consD (constD (.int 1)) (consD (constD (.int 8)) nilD)))) (opD modD (callG 1 0 m_law_draw nilD) (constD (.int 2)))))
  (seqS (setS 5 (opD modD (callG 1 0 m_law_draw nilD) (constD (.int 3))))
  (seqS (setOS 6 (lstO nilD))
  (seqS (forS (rangeD (varD 2)) (nameT 7)
  (seqS (setOS 9 (lcO (rangeD (opD addD (constD (.int 1)) (opD modD (callG 1 0 m_law_draw nilD) (constD (.int 3))))) [8] (nameT 8) yesT (opD addD (constD (.int 1)) (opD modD (callG 1 0 m_law_draw nilD) (constD (.int 5)))))) (shutS 9 (forS (itemsD (varD 9)) (nameT 10)
  (seqS (setS 12 (opD modD (callG 1 0 m_law_draw nilD) (varD 2)))
  (seqS (ifS (boolD (opD eqD (varD 5) (constD (.int 0))))
  (setS 12 (opD modD (opD addD (varD 7) (opD modD (callG 1 0 m_law_draw nilD) (constD (.int 3)))) (varD 2)))
  nextS)
  (seqS (ifS (andT (boolD (opD eqD (varD 5) (constD (.int 1)))) (andT (boolD (opD (cmpD fun i j => decide (j < i)) (varD 7) (constD (.int 0)))) (boolD (opD (cmpD fun i j => decide (j < i)) (opD modD (callG 1 0 m_law_draw nilD) (constD (.int 3))) (constD (.int 0))))))
  (setS 12 (opD subD (varD 7) (constD (.int 1))))
  nextS)
  (seqS (setS 13 (ifD (boolD (opD eqD (opD ixD (varD 3) (varD 7)) (constD (.int 0)))) (tupD (consD (constD (.int 1)) (consD (constD (.int 1)) nilD))) (callD 2 m_law_part (consD (varD 10) (consD (unD sumD (varD 9)) nilD)))))
  (appS 6 (tupD (consD (varD 7) (consD (varD 12) (consD (opD subD (opD modD (callG 1 0 m_law_draw nilD) (opD addD (opD mulD (constD (.int 2)) (varD 4)) (constD (.int 1)))) (varD 4)) (consD (varD 13) nilD))))))))))))))
  (seqS (forS (rangeD (peekD 6 (unD lenD (varD 6)))) (nameT 8)
  (seqS (setS 11 (peekD 6 (opD modD (callG 1 0 m_law_draw nilD) (unD lenD (varD 6)))))
  (swapS 6 8 11 (tupD (consD (ixO 6 (varD 11)) (consD (ixO 6 (varD 8)) nilD))))))
  (shutS 6 (retS (tupD (consD (varD 3) (consD (unD tupleD (varD 6)) nilD))))))))))))
noncomputable def m_law_lottery : Fn := fnD 12 true b_law_lottery
theorem ok_law_lottery (T : Tx K mg cls) (D : Df K mg "_law_lottery" s_law_lottery ["draws", "most"]) (k_law_draw : Kept P w K mg base cls "_law_draw" ["draws"] true m_law_draw 2) (k_law_part : Kept P w K mg base cls "_law_part" ["p", "q"] false m_law_part 2) : Kept P w K mg base cls "_law_lottery" ["draws", "most"] true m_law_lottery 3 :=
  fn_ok (body := b_law_lottery) D sc_law_lottery fun f cdv A outer s H E hr => by
    have tk := takes_of (X := cxOf (L2.CX P w) P w K mg base N_law_lottery "_law_lottery" (defScope s_law_lottery) f cdv A outer s H E) (E := E) rfl rfl rfl rfl
    have hp := passes_of (X := cxOf (L2.CX P w) P w K mg base N_law_lottery "_law_lottery" (defScope s_law_lottery) f cdv A outer s H E) rfl
    exact (pssd_cons (psd_set 2 sc_law_lottery.nd (pd_add pd_int (pd_mod (pd_callG 0 k_law_draw hr (by decide) tk pad_nil) (pd_var 1))))
    (pssd_cons (psd_set 3 sc_law_lottery.nd (pd_tuple T.n_tuple (pd_share (po_lc (own := [("room", 7)]) rfl sc_law_lottery.nd (pid_range T.n_range (pd_var 2)) (blkOk_by (own := [("room", 7)]) (N := N_law_lottery) (sc := defScope s_law_lottery) (by decide +kernel)) (fun _ _ _ _ _ => (pgd_name 7 sc_law_lottery.nd)) (fun _ _ _ _ _ => ptsd_nil) (fun _ _ _ _ _ => (pd_ix (pd_share (po_lst (pad_cons pd_int (pad_cons pd_int (pad_cons pd_int pad_nil))))) (pd_mod (pd_callG 0 k_law_draw hr (by decide) takes0 pad_nil) pd_int)))))))
    (pssd_cons (psd_set 4 sc_law_lottery.nd (pd_ix (pd_share (po_lst (pad_cons pd_int (pad_cons pd_int pad_nil)))) (pd_mod (pd_callG 0 k_law_draw hr (by decide) tk pad_nil) pd_int)))
    (pssd_cons (psd_set 5 sc_law_lottery.nd (pd_mod (pd_callG 0 k_law_draw hr (by decide) tk pad_nil) pd_int))
    (pssd_cons (psd_setO 6 sc_law_lottery.nd (po_lst pad_nil))
    (pssd_cons (psd_for hp rfl (pid_range T.n_range (pd_var 2)) (pgd_name 7 sc_law_lottery.nd)
    (pssd_setLc 9 (psd_setLcO 9 (own := [("k", 8)]) rfl sc_law_lottery.nd (sw_true rfl rfl rfl (by decide +kernel)) (pid_range T.n_range (pd_add pd_int (pd_mod (pd_callG 0 k_law_draw hr (by decide) tk pad_nil) pd_int))) (blkOk_by (own := [("k", 8)]) (N := N_law_lottery) (sc := defScope s_law_lottery) (by decide +kernel)) (fun _ _ _ _ _ => (pgd_name 8 sc_law_lottery.nd)) (fun _ _ _ _ _ => ptsd_nil) (fun _ _ _ _ _ => (pd_add pd_int (pd_mod (pd_callG 0 k_law_draw hr (by decide) takes0 pad_nil) pd_int)))) (pssd_one (psd_for hp rfl (pid_seq (pd_var 9)) (pgd_name 10 sc_law_lottery.nd)
    (pssd_cons (psd_set 12 sc_law_lottery.nd (pd_mod (pd_callG 0 k_law_draw hr (by decide) tk pad_nil) (pd_var 2)))
    (pssd_cons (psd_if (ptd_cmp (c_eq hr) (pd_var 5) pd_int)
    (pssd_one (psd_set 12 sc_law_lottery.nd (pd_mod (pd_add (pd_var 7) (pd_mod (pd_callG 0 k_law_draw hr (by decide) tk pad_nil) pd_int)) (pd_var 2))))
    pssd_nil)
    (pssd_cons (psd_if (PW.pt (pwd_and (ptd_cmp (c_eq hr) (pd_var 5) pd_int) (pwd_and (ptd_cmp c_gt (pd_var 7) pd_int) (pwd_and1 (ptd_cmp c_gt (pd_mod (pd_callG 0 k_law_draw hr (by decide) tk pad_nil) pd_int) pd_int)))))
    (pssd_one (psd_set 12 sc_law_lottery.nd (pd_sub (pd_var 7) pd_int)))
    pssd_nil)
    (pssd_cons (psd_set 13 sc_law_lottery.nd (pd_if (ptd_cmp (c_eq hr) (pd_ix (pd_var 3) (pd_var 7)) pd_int) (pd_tup (pad_cons pd_int (pad_cons pd_int pad_nil))) (pd_call k_law_part hr (by decide) tk (pad_cons (pd_var 10) (pad_cons (pd_sum rfl T.n_sum (pd_var 9)) pad_nil)))))
    (pssd_one (psd_app 6 (pd_tup (pad_cons (pd_var 7) (pad_cons (pd_var 12) (pad_cons (pd_sub (pd_mod (pd_callG 0 k_law_draw hr (by decide) tk pad_nil) (pd_add (pd_mul pd_int (pd_var 4)) pd_int)) (pd_var 4)) (pad_cons (pd_var 13) pad_nil)))))))))))))))
    (pssd_cons (psd_for hp rfl (pid_range T.n_range (pd_peek 6 (pd_len T.n_len (pd_var 6)))) (pgd_name 8 sc_law_lottery.nd)
    (pssd_cons (psd_set 11 sc_law_lottery.nd (pd_peek 6 (pd_mod (pd_callG 0 k_law_draw hr (by decide) tk pad_nil) (pd_len T.n_len (pd_var 6)))))
    (pssd_one (psd_swap 6 8 11 rfl (pd_tup (pad_cons (pd_ixO 6 (pd_var 11)) (pad_cons (pd_ixO 6 (pd_var 8)) pad_nil)))))))
    (pssd_shut 6 (pssd_one (psd_ret (pd_tup (pad_cons (pd_var 3) (pad_cons (pd_tuple T.n_tuple (pd_var 6)) pad_nil)))))))))))))
abbrev s_law_places : Stmt := topS 56
abbrev N_law_places : List Str := ["lottery", "room", "k"]
theorem sc_law_places : FnScope N_law_places ["lottery", "room"] (defScope s_law_places) := ⟨rfl, rfl, rfl, by decide +kernel, rfl, by decide +kernel, by decide +kernel⟩
noncomputable def b_law_places : Sm := (retS (shareO (lcO (rangeD (unD lenD (opD ixD (varD 0) (constD (.int 1))))) [2] (nameT 2) (boolD (opD eqD (opD ixD (opD ixD (opD ixD (varD 0) (constD (.int 1))) (varD 2)) (constD (.int 0))) (varD 1))) (varD 2))))
noncomputable def m_law_places : Fn := fnD 1 false b_law_places
theorem ok_law_places (T : Tx K mg cls) (D : Df K mg "_law_places" s_law_places ["lottery", "room"])  : Kept P w K mg base cls "_law_places" ["lottery", "room"] false m_law_places 1 :=
  fn_ok (body := b_law_places) D sc_law_places fun f cdv A outer s H E hr => by
    have tk := takes_of (X := cxOf (L2.CX P w) P w K mg base N_law_places "_law_places" (defScope s_law_places) f cdv A outer s H E) (E := E) rfl rfl rfl rfl
    have hp := passes_of (X := cxOf (L2.CX P w) P w K mg base N_law_places "_law_places" (defScope s_law_places) f cdv A outer s H E) rfl
    exact (pssd_one (psd_ret (pd_share (po_lc (own := [("k", 2)]) rfl sc_law_places.nd (pid_range T.n_range (pd_len T.n_len (pd_ix (pd_var 0) pd_int))) (blkOk_by (own := [("k", 2)]) (N := N_law_places) (sc := defScope s_law_places) (by decide +kernel)) (fun _ _ _ _ _ => (pgd_name 2 sc_law_places.nd)) (fun _ _ _ _ _ => (ptsd_one (ptd_cmp (c_eq hr) (pd_ix (pd_ix (pd_ix (pd_var 0) pd_int) (pd_var 2)) pd_int) (pd_var 1)))) (fun _ _ _ _ _ => (pd_var 2))))))
abbrev s_law_plan : Stmt := topS 57
abbrev N_law_plan : List Str := ["draws", "lottery", "found", "room", "places"]
theorem sc_law_plan : FnScope N_law_plan ["draws", "lottery"] (defScope s_law_plan) := ⟨rfl, rfl, rfl, by decide +kernel, rfl, by decide +kernel, by decide +kernel⟩
noncomputable def b_law_plan : Sm := (seqS (setOS 2 (lstO nilD))
  (seqS (forS (rangeD (unD lenD (opD ixD (varD 1) (constD (.int 0))))) (nameT 3)
  (seqS (setS 4 (callD 2 m_law_places (consD (varD 1) (consD (varD 3) nilD))))
  (appS 2 (ifD (boolD (opD eqD (opD ixD (opD ixD (varD 1) (constD (.int 0))) (varD 3)) (constD (.int 0)))) (opD ixD (varD 4) (opD modD (callG 1 0 m_law_draw nilD) (unD lenD (varD 4)))) (constD .none)))))
  (shutS 2 (retS (unD tupleD (varD 2))))))
noncomputable def m_law_plan : Fn := fnD 3 true b_law_plan
theorem ok_law_plan (T : Tx K mg cls) (D : Df K mg "_law_plan" s_law_plan ["draws", "lottery"]) (k_law_places : Kept P w K mg base cls "_law_places" ["lottery", "room"] false m_law_places 1) (k_law_draw : Kept P w K mg base cls "_law_draw" ["draws"] true m_law_draw 2) : Kept P w K mg base cls "_law_plan" ["draws", "lottery"] true m_law_plan 3 :=
  fn_ok (body := b_law_plan) D sc_law_plan fun f cdv A outer s H E hr => by
    have tk := takes_of (X := cxOf (L2.CX P w) P w K mg base N_law_plan "_law_plan" (defScope s_law_plan) f cdv A outer s H E) (E := E) rfl rfl rfl rfl
    have hp := passes_of (X := cxOf (L2.CX P w) P w K mg base N_law_plan "_law_plan" (defScope s_law_plan) f cdv A outer s H E) rfl
    exact (pssd_cons (psd_setO 2 sc_law_plan.nd (po_lst pad_nil))
    (pssd_cons (psd_for hp rfl (pid_range T.n_range (pd_len T.n_len (pd_ix (pd_var 1) pd_int))) (pgd_name 3 sc_law_plan.nd)
    (pssd_cons (psd_set 4 sc_law_plan.nd (pd_call k_law_places hr (by decide) tk (pad_cons (pd_var 1) (pad_cons (pd_var 3) pad_nil))))
    (pssd_one (psd_app 2 (pd_if (ptd_cmp (c_eq hr) (pd_ix (pd_ix (pd_var 1) pd_int) (pd_var 3)) pd_int) (pd_ix (pd_var 4) (pd_mod (pd_callG 0 k_law_draw hr (by decide) tk pad_nil) (pd_len T.n_len (pd_var 4)))) pd_non)))))
    (pssd_shut 2 (pssd_one (psd_ret (pd_tuple T.n_tuple (pd_var 2)))))))
abbrev s_law_walk : Stmt := topS 68
abbrev N_law_walk : List Str := ["draws", "lottery", "plan", "room", "found", "turn", "places", "k"]
theorem sc_law_walk : FnScope N_law_walk ["draws", "lottery", "plan", "room"] (defScope s_law_walk) := ⟨rfl, rfl, rfl, by decide +kernel, rfl, by decide +kernel, by decide +kernel⟩
noncomputable def b_law_walk : Sm := (seqS (setOS 4 (lstO nilD))
  (seqS (forS (rangeD (opD modD (callG 1 0 m_law_draw nilD) (constD (.int 6)))) (nameT 5)
  (seqS (setOS 6 (lcO (itemsD (callD 2 m_law_places (consD (varD 1) (consD (varD 3) nilD)))) [7] (nameT 7) (orT (boolD (unD isNoneD (opD ixD (varD 2) (varD 3)))) (boolD (opD eqD (opD ixD (varD 2) (varD 3)) (varD 7)))) (varD 7))) (shutS 6 (seqS (appS 4 (ifD (boolD (opD (cmpD fun i j => decide (j < i)) (opD modD (callG 1 0 m_law_draw nilD) (constD (.int 8))) (constD (.int 0)))) (opD ixD (varD 6) (opD modD (callG 1 0 m_law_draw nilD) (unD lenD (varD 6)))) (opD modD (callG 1 0 m_law_draw nilD) (unD lenD (opD ixD (varD 1) (constD (.int 1)))))))
  (setS 3 (peekD 4 (opD ixD (opD ixD (opD ixD (varD 1) (constD (.int 1))) (opD ixD (varD 4) (opD subD (unD lenD (varD 4)) (constD (.int 1))))) (constD (.int 1)))))))))
  (shutS 4 (retS (varD 4)))))
noncomputable def m_law_walk : Fn := fnD 4 true b_law_walk
theorem ok_law_walk (T : Tx K mg cls) (D : Df K mg "_law_walk" s_law_walk ["draws", "lottery", "plan", "room"]) (k_law_draw : Kept P w K mg base cls "_law_draw" ["draws"] true m_law_draw 2) (k_law_places : Kept P w K mg base cls "_law_places" ["lottery", "room"] false m_law_places 1) : Kept P w K mg base cls "_law_walk" ["draws", "lottery", "plan", "room"] true m_law_walk 3 :=
  fn_ok (body := b_law_walk) D sc_law_walk fun f cdv A outer s H E hr => by
    have tk := takes_of (X := cxOf (L2.CX P w) P w K mg base N_law_walk "_law_walk" (defScope s_law_walk) f cdv A outer s H E) (E := E) rfl rfl rfl rfl
    have hp := passes_of (X := cxOf (L2.CX P w) P w K mg base N_law_walk "_law_walk" (defScope s_law_walk) f cdv A outer s H E) rfl
    exact (pssd_cons (psd_setO 4 sc_law_walk.nd (po_lst pad_nil))
    (pssd_cons (psd_for hp rfl (pid_range T.n_range (pd_mod (pd_callG 0 k_law_draw hr (by decide) tk pad_nil) pd_int)) (pgd_name 5 sc_law_walk.nd)
    (pssd_setLc 6 (psd_setLcO 6 (own := [("k", 7)]) rfl sc_law_walk.nd (sw_true rfl rfl rfl (by decide +kernel)) (pid_seq (pd_call k_law_places hr (by decide) tk (pad_cons (pd_var 1) (pad_cons (pd_var 3) pad_nil)))) (blkOk_by (own := [("k", 7)]) (N := N_law_walk) (sc := defScope s_law_walk) (by decide +kernel)) (fun _ _ _ _ _ => (pgd_name 7 sc_law_walk.nd)) (fun _ _ _ _ _ => (ptsd_one (PW.pt (pwd_or (ptd_isN (pd_ix (pd_var 2) (pd_var 3))) (pwd_or1 (ptd_cmp (c_eq hr) (pd_ix (pd_var 2) (pd_var 3)) (pd_var 7))))))) (fun _ _ _ _ _ => (pd_var 7))) (pssd_cons (psd_app 4 (pd_if (ptd_cmp c_gt (pd_mod (pd_callG 0 k_law_draw hr (by decide) tk pad_nil) pd_int) pd_int) (pd_ix (pd_var 6) (pd_mod (pd_callG 0 k_law_draw hr (by decide) tk pad_nil) (pd_len T.n_len (pd_var 6)))) (pd_mod (pd_callG 0 k_law_draw hr (by decide) tk pad_nil) (pd_len T.n_len (pd_ix (pd_var 1) pd_int)))))
    (pssd_one (psd_set 3 sc_law_walk.nd (pd_peek 4 (pd_ix (pd_ix (pd_ix (pd_var 1) pd_int) (pd_ix (pd_var 4) (pd_sub (pd_len T.n_len (pd_var 4)) pd_int))) pd_int)))))))
    (pssd_shut 4 (pssd_one (psd_ret (pd_var 4))))))
abbrev s_law_times : Stmt := topS 53
abbrev N_law_times : List Str := ["one", "other"]
theorem sc_law_times : FnScope N_law_times ["one", "other"] (defScope s_law_times) := ⟨rfl, rfl, rfl, by decide +kernel, rfl, by decide +kernel, by decide +kernel⟩
noncomputable def b_law_times : Sm := (retS (callD 2 m_law_part (consD (opD mulW (opD ixD (varD 0) (constD (.int 0))) (opD ixD (varD 1) (constD (.int 0)))) (consD (opD mulW (opD ixD (varD 0) (constD (.int 1))) (opD ixD (varD 1) (constD (.int 1)))) nilD))))
noncomputable def m_law_times : Fn := fnD 0 false b_law_times
theorem ok_law_times (T : Tx K mg cls) (D : Df K mg "_law_times" s_law_times ["one", "other"]) (k_law_part : Kept P w K mg base cls "_law_part" ["p", "q"] false m_law_part 2) : Kept P w K mg base cls "_law_times" ["one", "other"] false m_law_times 3 :=
  fn_ok (body := b_law_times) D sc_law_times fun f cdv A outer s H E hr => by
    have tk := takes_of (X := cxOf (L2.CX P w) P w K mg base N_law_times "_law_times" (defScope s_law_times) f cdv A outer s H E) (E := E) rfl rfl rfl rfl
    have hp := passes_of (X := cxOf (L2.CX P w) P w K mg base N_law_times "_law_times" (defScope s_law_times) f cdv A outer s H E) rfl
    exact (pssd_one (psd_ret (pd_call k_law_part hr (by decide) tk (pad_cons (pd_mulW (pd_ix (pd_var 0) pd_int) (pd_ix (pd_var 1) pd_int)) (pad_cons (pd_mulW (pd_ix (pd_var 0) pd_int) (pd_ix (pd_var 1) pd_int)) pad_nil)))))
abbrev s_law_plus : Stmt := topS 52
abbrev N_law_plus : List Str := ["one", "other"]
theorem sc_law_plus : FnScope N_law_plus ["one", "other"] (defScope s_law_plus) := ⟨rfl, rfl, rfl, by decide +kernel, rfl, by decide +kernel, by decide +kernel⟩
noncomputable def b_law_plus : Sm := (retS (callD 2 m_law_part (consD (opD addD (opD mulW (opD ixD (varD 0) (constD (.int 0))) (opD ixD (varD 1) (constD (.int 1)))) (opD mulW (opD ixD (varD 1) (constD (.int 0))) (opD ixD (varD 0) (constD (.int 1))))) (consD (opD mulW (opD ixD (varD 0) (constD (.int 1))) (opD ixD (varD 1) (constD (.int 1)))) nilD))))
noncomputable def m_law_plus : Fn := fnD 0 false b_law_plus
theorem ok_law_plus (T : Tx K mg cls) (D : Df K mg "_law_plus" s_law_plus ["one", "other"]) (k_law_part : Kept P w K mg base cls "_law_part" ["p", "q"] false m_law_part 2) : Kept P w K mg base cls "_law_plus" ["one", "other"] false m_law_plus 3 :=
  fn_ok (body := b_law_plus) D sc_law_plus fun f cdv A outer s H E hr => by
    have tk := takes_of (X := cxOf (L2.CX P w) P w K mg base N_law_plus "_law_plus" (defScope s_law_plus) f cdv A outer s H E) (E := E) rfl rfl rfl rfl
    have hp := passes_of (X := cxOf (L2.CX P w) P w K mg base N_law_plus "_law_plus" (defScope s_law_plus) f cdv A outer s H E) rfl
    exact (pssd_one (psd_ret (pd_call k_law_part hr (by decide) tk (pad_cons (pd_add (pd_mulW (pd_ix (pd_var 0) pd_int) (pd_ix (pd_var 1) pd_int)) (pd_mulW (pd_ix (pd_var 1) pd_int) (pd_ix (pd_var 0) pd_int))) (pad_cons (pd_mulW (pd_ix (pd_var 0) pd_int) (pd_ix (pd_var 1) pd_int)) pad_nil)))))
abbrev s_law_spread : Stmt := topS 66
abbrev N_law_spread : List Str := ["steps", "room", "k", "here", "whole", "turn", "there", "place", "target", "amount", "share", "part"]
theorem sc_law_spread : FnScope N_law_spread ["steps", "room", "k"] (defScope s_law_spread) := ⟨rfl, rfl, rfl, by decide +kernel, rfl, by decide +kernel, by decide +kernel⟩
noncomputable def b_law_spread : Sm := (seqS (setOS 3 (mulO (shareO (lstO (consD (tupD (consD (constD (.int 0)) (consD (constD (.int 1)) nilD))) nilD))) (unD lenD (varD 0))))
  (seqS (setIxS 3 (varD 1) (tupD (consD (constD (.int 1)) (consD (constD (.int 1)) nilD))))
  (seqS (setS 4 (tupD (consD (constD (.int 0)) (consD (constD (.int 1)) nilD))))
  (shutS 3 (seqS (forS (rangeD (varD 2)) (nameT 5)
  (seqS (setOS 6 (mulO (shareO (lstO (consD (tupD (consD (constD (.int 0)) (consD (constD (.int 1)) nilD))) nilD))) (unD lenD (varD 0))))
  (seqS (forS (rangeD (unD lenD (varD 0))) (nameT 7)
  (forS (itemsD (opD ixD (varD 0) (varD 7))) (tupT (consT (nameT 8) (consT (nameT 9) (consT (nameT 10) nilT))))
  (seqS (setS 11 (callD 2 m_law_times (consD (opD ixD (varD 3) (varD 7)) (consD (varD 10) nilD))))
  (seqS (setIxS 6 (varD 8) (callD 2 m_law_plus (consD (ixO 6 (varD 8)) (consD (varD 11) nilD))))
  (setS 4 (callD 2 m_law_plus (consD (varD 4) (consD (callD 2 m_law_times (consD (varD 11) (consD (tupD (consD (varD 9) (consD (constD (.int 1)) nilD))) nilD))) nilD))))))))
  (shutS 6 (setS 3 (varD 6))))))
  (retS (tupD (consD (varD 3) (consD (varD 4) nilD)))))))))
noncomputable def m_law_spread : Fn := fnD 9 false b_law_spread
theorem ok_law_spread (T : Tx K mg cls) (D : Df K mg "_law_spread" s_law_spread ["steps", "room", "k"]) (k_law_times : Kept P w K mg base cls "_law_times" ["one", "other"] false m_law_times 3) (k_law_plus : Kept P w K mg base cls "_law_plus" ["one", "other"] false m_law_plus 3) : Kept P w K mg base cls "_law_spread" ["steps", "room", "k"] false m_law_spread 4 :=
  fn_ok (body := b_law_spread) D sc_law_spread fun f cdv A outer s H E hr => by
    have tk := takes_of (X := cxOf (L2.CX P w) P w K mg base N_law_spread "_law_spread" (defScope s_law_spread) f cdv A outer s H E) (E := E) rfl rfl rfl rfl
    have hp := passes_of (X := cxOf (L2.CX P w) P w K mg base N_law_spread "_law_spread" (defScope s_law_spread) f cdv A outer s H E) rfl
    exact (pssd_cons (psd_setO 3 sc_law_spread.nd (po_mul (pd_share (po_lst (pad_cons (pd_tup (pad_cons pd_int (pad_cons pd_int pad_nil))) pad_nil))) (pd_len T.n_len (pd_var 0))))
    (pssd_cons (psd_setIx 3 (pd_var 1) (pd_tup (pad_cons pd_int (pad_cons pd_int pad_nil))))
    (pssd_cons (psd_set 4 sc_law_spread.nd (pd_tup (pad_cons pd_int (pad_cons pd_int pad_nil))))
    (pssd_shut 3 (pssd_cons (psd_for hp rfl (pid_range T.n_range (pd_var 2)) (pgd_name 5 sc_law_spread.nd)
    (pssd_cons (psd_setO 6 sc_law_spread.nd (po_mul (pd_share (po_lst (pad_cons (pd_tup (pad_cons pd_int (pad_cons pd_int pad_nil))) pad_nil))) (pd_len T.n_len (pd_var 0))))
    (pssd_cons (psd_for hp rfl (pid_range T.n_range (pd_len T.n_len (pd_var 0))) (pgd_name 7 sc_law_spread.nd)
    (pssd_one (psd_for hp rfl (pid_seq (pd_ix (pd_var 0) (pd_var 7))) (pgd_tup rfl (pgsd_cons (pgd_name 8 sc_law_spread.nd) (pgsd_cons (pgd_name 9 sc_law_spread.nd) (pgsd_cons (pgd_name 10 sc_law_spread.nd) pgsd_nil))) len3)
    (pssd_cons (psd_set 11 sc_law_spread.nd (pd_call k_law_times hr (by decide) tk (pad_cons (pd_ix (pd_var 3) (pd_var 7)) (pad_cons (pd_var 10) pad_nil))))
    (pssd_cons (psd_setIx 6 (pd_var 8) (pd_call k_law_plus hr (by decide) tk (pad_cons (pd_ixO 6 (pd_var 8)) (pad_cons (pd_var 11) pad_nil))))
    (pssd_one (psd_set 4 sc_law_spread.nd (pd_call k_law_plus hr (by decide) tk (pad_cons (pd_var 4) (pad_cons (pd_call k_law_times hr (by decide) tk (pad_cons (pd_var 11) (pad_cons (pd_tup (pad_cons (pd_var 9) (pad_cons pd_int pad_nil))) pad_nil))) pad_nil))))))))))
    (pssd_shut 6 (pssd_one (psd_set 3 sc_law_spread.nd (pd_var 6)))))))
    (pssd_one (psd_ret (pd_tup (pad_cons (pd_var 3) (pad_cons (pd_var 4) pad_nil))))))))))
abbrev s_law_all_equal : Stmt := topS 49
abbrev N_law_all_equal : List Str := ["actual", "due", "k"]
theorem sc_law_all_equal : FnScope N_law_all_equal ["actual", "due"] (defScope s_law_all_equal) := ⟨rfl, rfl, rfl, by decide +kernel, rfl, by decide +kernel, by decide +kernel⟩
def b_law_all_equal (m_law_equal : Fn) : Sm := (seqS (forS (rangeD (unD lenD (varD 1))) (nameT 2)
  (ifS (notT (truthD (callD 2 m_law_equal (consD (opD ixD (varD 0) (varD 2)) (consD (opD ixD (varD 1) (varD 2)) nilD)))))
  (retS (constD (.bool false)))
  nextS))
  (retS (constD (.bool true))))
theorem ok_law_all_equal {m_law_equal : Fn} {j : Nat} (T : Tx K mg cls) (D : Df K mg "_law_all_equal" s_law_all_equal ["actual", "due"]) (k_law_equal : Kept P w K mg base cls "_law_equal" ["actual", "due"] false m_law_equal j) : Kept P w K mg base cls "_law_all_equal" ["actual", "due"] false (fnD 1 false (b_law_all_equal m_law_equal)) (j + 1) :=
  fn_ok (body := b_law_all_equal m_law_equal) D sc_law_all_equal fun f cdv A outer s H E hr => by
    have tk := takes_of (X := cxOf (L2.CX P w) P w K mg base N_law_all_equal "_law_all_equal" (defScope s_law_all_equal) f cdv A outer s H E) (E := E) rfl rfl rfl rfl
    have hp := passes_of (X := cxOf (L2.CX P w) P w K mg base N_law_all_equal "_law_all_equal" (defScope s_law_all_equal) f cdv A outer s H E) rfl
    exact (pssd_cons (psd_for hp rfl (pid_range T.n_range (pd_len T.n_len (pd_var 1))) (pgd_name 2 sc_law_all_equal.nd)
    (pssd_one (psd_if (ptd_not (ptd_val (pd_call k_law_equal hr (Nat.le_refl _) tk (pad_cons (pd_ix (pd_var 0) (pd_var 2)) (pad_cons (pd_ix (pd_var 1) (pd_var 2)) pad_nil)))))
    (pssd_one (psd_ret pd_bl))
    pssd_nil)))
    (pssd_one (psd_ret pd_bl)))
abbrev s_law_equal : Stmt := topS 48
abbrev N_law_equal : List Str := ["actual", "due"]
theorem sc_law_equal : FnScope N_law_equal ["actual", "due"] (defScope s_law_equal) := ⟨rfl, rfl, rfl, by decide +kernel, rfl, by decide +kernel, by decide +kernel⟩
def b_law_equal (m_law_all_equal : Fn) : Sm := (seqS (ifS (truthD (unD (isiD "list") (varD 1)))
  (retS (andV (unD (isiD "list") (varD 0)) (andV (opD eqD (unD lenD (varD 0)) (unD lenD (varD 1))) (callD 2 m_law_all_equal (consD (varD 0) (consD (varD 1) nilD))))))
  nextS)
  (seqS (ifS (truthD (unD (isiD "tuple") (varD 1)))
  (retS (andV (unD (isiD "tuple") (varD 0)) (andV (opD eqD (unD lenD (varD 0)) (unD lenD (varD 1))) (callD 2 m_law_all_equal (consD (varD 0) (consD (varD 1) nilD))))))
  nextS)
  (seqS (ifS (truthD (unD (isiD "bool") (varD 1)))
  (retS (andV (unD (isiD "bool") (varD 0)) (opD eqD (varD 0) (varD 1))))
  nextS)
  (seqS (ifS (truthD (unD (isiD "int") (varD 1)))
  (retS (andV (unD (isiD "int") (varD 0)) (andV (notV (unD (isiD "bool") (varD 0))) (opD eqD (varD 0) (varD 1)))))
  nextS)
  (seqS (ifS (truthD (unD (isiD "str") (varD 1)))
  (retS (andV (unD (isiD "str") (varD 0)) (opD eqD (varD 0) (varD 1))))
  nextS)
  (retS (unD isNoneD (varD 0))))))))
theorem ok_law_equal {m_law_all_equal : Fn} {j : Nat} (T : Tx K mg cls) (D : Df K mg "_law_equal" s_law_equal ["actual", "due"]) (k_law_all_equal : Kept P w K mg base cls "_law_all_equal" ["actual", "due"] false m_law_all_equal j) : Kept P w K mg base cls "_law_equal" ["actual", "due"] false (fnD 0 false (b_law_equal m_law_all_equal)) (j + 1) :=
  fn_ok (body := b_law_equal m_law_all_equal) D sc_law_equal fun f cdv A outer s H E hr => by
    have tk := takes_of (X := cxOf (L2.CX P w) P w K mg base N_law_equal "_law_equal" (defScope s_law_equal) f cdv A outer s H E) (E := E) rfl rfl rfl rfl
    have hp := passes_of (X := cxOf (L2.CX P w) P w K mg base N_law_equal "_law_equal" (defScope s_law_equal) f cdv A outer s H E) rfl
    exact (pssd_cons (psd_if (ptd_val (pd_isi kit_list T.n_isinstance T.n_list PyProof.Rows.boot_list (pd_var 1)))
    (pssd_one (psd_ret (pd_and (pd_isi kit_list T.n_isinstance T.n_list PyProof.Rows.boot_list (pd_var 0)) (pd_and (pd_cmp (c_eq hr) (pd_len T.n_len (pd_var 0)) (pd_len T.n_len (pd_var 1))) (pd_one (pd_call k_law_all_equal hr (Nat.le_refl _) tk (pad_cons (pd_var 0) (pad_cons (pd_var 1) pad_nil))))))))
    pssd_nil)
    (pssd_cons (psd_if (ptd_val (pd_isi kit_tuple T.n_isinstance T.n_tuple PyProof.Rows.boot_tuple (pd_var 1)))
    (pssd_one (psd_ret (pd_and (pd_isi kit_tuple T.n_isinstance T.n_tuple PyProof.Rows.boot_tuple (pd_var 0)) (pd_and (pd_cmp (c_eq hr) (pd_len T.n_len (pd_var 0)) (pd_len T.n_len (pd_var 1))) (pd_one (pd_call k_law_all_equal hr (Nat.le_refl _) tk (pad_cons (pd_var 0) (pad_cons (pd_var 1) pad_nil))))))))
    pssd_nil)
    (pssd_cons (psd_if (ptd_val (pd_isi kit_bool T.n_isinstance T.n_bool PyProof.Rows.boot_bool (pd_var 1)))
    (pssd_one (psd_ret (pd_and (pd_isi kit_bool T.n_isinstance T.n_bool PyProof.Rows.boot_bool (pd_var 0)) (pd_one (pd_cmp (c_eq hr) (pd_var 0) (pd_var 1))))))
    pssd_nil)
    (pssd_cons (psd_if (ptd_val (pd_isi kit_int T.n_isinstance T.n_int PyProof.Rows.boot_int (pd_var 1)))
    (pssd_one (psd_ret (pd_and (pd_isi kit_int T.n_isinstance T.n_int PyProof.Rows.boot_int (pd_var 0)) (pd_and (pd_not (pd_isi kit_bool T.n_isinstance T.n_bool PyProof.Rows.boot_bool (pd_var 0))) (pd_one (pd_cmp (c_eq hr) (pd_var 0) (pd_var 1)))))))
    pssd_nil)
    (pssd_cons (psd_if (ptd_val (pd_isi kit_str T.n_isinstance T.n_str PyProof.Rows.boot_str (pd_var 1)))
    (pssd_one (psd_ret (pd_and (pd_isi kit_str T.n_isinstance T.n_str PyProof.Rows.boot_str (pd_var 0)) (pd_one (pd_cmp (c_eq hr) (pd_var 0) (pd_var 1))))))
    pssd_nil)
    (pssd_one (psd_ret (pd_isN (pd_var 0)))))))))
mutual
def eqA : Nat → Fn
  | 0 => fun _ _ => .bad
  | n + 1 => fnD 0 false (b_law_equal (eqB n))
def eqB : Nat → Fn
  | 0 => fun _ _ => .bad
  | n + 1 => fnD 1 false (b_law_all_equal (eqA n))
end
def m_law_equal : Fn := eqA 16
theorem ok_eqs (T : Tx K mg cls) (D1 : Df K mg "_law_equal" s_law_equal ["actual", "due"]) (D2 : Df K mg "_law_all_equal" s_law_all_equal ["actual", "due"]) : ∀ n : Nat, Kept P w K mg base cls "_law_equal" ["actual", "due"] false (eqA n) (n + 1) ∧ Kept P w K mg base cls "_law_all_equal" ["actual", "due"] false (eqB n) (n + 1)
  | 0 => ⟨by unfold eqA; exact kept_bad D1, by unfold eqB; exact kept_bad D2⟩
  | n + 1 => by
    obtain ⟨h1, h2⟩ := ok_eqs T D1 D2 n
    exact ⟨by unfold eqA; exact ok_law_equal T D1 h2, by unfold eqB; exact ok_law_all_equal T D2 h1⟩
theorem ok_law_equal40 (T : Tx K mg cls) (D1 : Df K mg "_law_equal" s_law_equal ["actual", "due"]) (D2 : Df K mg "_law_all_equal" s_law_all_equal ["actual", "due"]) : Kept P w K mg base cls "_law_equal" ["actual", "due"] false m_law_equal 40 := (ok_eqs T D1 D2 16).1.mono (by decide)
abbrev s_places_from : Stmt := topS 25
abbrev N_places_from : List Str := ["lottery", "room", "k"]
theorem sc_places_from : FnScope N_places_from ["lottery", "room"] (defScope s_places_from) := ⟨rfl, rfl, rfl, by decide +kernel, rfl, by decide +kernel, by decide +kernel⟩
noncomputable def b_places_from : Sm := (retS (shareO (lcO (rangeD (unD lenD (opD ixD (varD 0) (constD (.int 1))))) [2] (nameT 2) (boolD (opD eqD (opD ixD (opD ixD (opD ixD (varD 0) (constD (.int 1))) (varD 2)) (constD (.int 0))) (varD 1))) (varD 2))))
noncomputable def m_places_from : Fn := fnD 1 false b_places_from
theorem ok_places_from (T : Tx K mg cls) (D : Df K mg "places_from" s_places_from ["lottery", "room"])  : Kept P w K mg base cls "places_from" ["lottery", "room"] false m_places_from 1 :=
  fn_ok (body := b_places_from) D sc_places_from fun f cdv A outer s H E hr => by
    have tk := takes_of (X := cxOf (L2.CX P w) P w K mg base N_places_from "places_from" (defScope s_places_from) f cdv A outer s H E) (E := E) rfl rfl rfl rfl
    have hp := passes_of (X := cxOf (L2.CX P w) P w K mg base N_places_from "places_from" (defScope s_places_from) f cdv A outer s H E) rfl
    exact (pssd_one (psd_ret (pd_share (po_lc (own := [("k", 2)]) rfl sc_places_from.nd (pid_range T.n_range (pd_len T.n_len (pd_ix (pd_var 0) pd_int))) (blkOk_by (own := [("k", 2)]) (N := N_places_from) (sc := defScope s_places_from) (by decide +kernel)) (fun _ _ _ _ _ => (pgd_name 2 sc_places_from.nd)) (fun _ _ _ _ _ => (ptsd_one (ptd_cmp (c_eq hr) (pd_ix (pd_ix (pd_ix (pd_var 0) pd_int) (pd_var 2)) pd_int) (pd_var 1)))) (fun _ _ _ _ _ => (pd_var 2))))))
abbrev s_is_tuple : Stmt := topS 8
abbrev N_is_tuple : List Str := ["value", "size"]
theorem sc_is_tuple : FnScope N_is_tuple ["value", "size"] (defScope s_is_tuple) := ⟨rfl, rfl, rfl, by decide +kernel, rfl, by decide +kernel, by decide +kernel⟩
noncomputable def b_is_tuple : Sm := (retS (andV (unD (isiD "tuple") (varD 0)) (opD eqD (unD lenD (varD 0)) (varD 1))))
noncomputable def m_is_tuple : Fn := fnD 0 false b_is_tuple
theorem ok_is_tuple (T : Tx K mg cls) (D : Df K mg "is_tuple" s_is_tuple ["value", "size"])  : Kept P w K mg base cls "is_tuple" ["value", "size"] false m_is_tuple 1 :=
  fn_ok (body := b_is_tuple) D sc_is_tuple fun f cdv A outer s H E hr => by
    have tk := takes_of (X := cxOf (L2.CX P w) P w K mg base N_is_tuple "is_tuple" (defScope s_is_tuple) f cdv A outer s H E) (E := E) rfl rfl rfl rfl
    have hp := passes_of (X := cxOf (L2.CX P w) P w K mg base N_is_tuple "is_tuple" (defScope s_is_tuple) f cdv A outer s H E) rfl
    exact (pssd_one (psd_ret (pd_and (pd_isi kit_tuple T.n_isinstance T.n_tuple PyProof.Rows.boot_tuple (pd_var 0)) (pd_one (pd_cmp (c_eq hr) (pd_len T.n_len (pd_var 0)) (pd_var 1))))))
abbrev s_divisor : Stmt := topS 5
abbrev N_divisor : List Str := ["one", "other"]
theorem sc_divisor : FnScope N_divisor ["one", "other"] (defScope s_divisor) := ⟨rfl, rfl, rfl, by decide +kernel, rfl, by decide +kernel, by decide +kernel⟩
noncomputable def b_divisor : Sm := (seqS (parS 0 1 (unD absD (varD 0)) (unD absD (varD 1)))
  (seqS (whileS (boolD (opD (cmpD fun i j => decide (j < i)) (varD 1) (constD (.int 0))))
  (parS 0 1 (varD 1) (opD modD (varD 0) (varD 1))))
  (retS (varD 0))))
noncomputable def m_divisor : Fn := fnD 0 false b_divisor
theorem ok_divisor (T : Tx K mg cls) (D : Df K mg "divisor" s_divisor ["one", "other"])  : Kept P w K mg base cls "divisor" ["one", "other"] false m_divisor 1 :=
  fn_ok (body := b_divisor) D sc_divisor fun f cdv A outer s H E hr => by
    have tk := takes_of (X := cxOf (L2.CX P w) P w K mg base N_divisor "divisor" (defScope s_divisor) f cdv A outer s H E) (E := E) rfl rfl rfl rfl
    have hp := passes_of (X := cxOf (L2.CX P w) P w K mg base N_divisor "divisor" (defScope s_divisor) f cdv A outer s H E) rfl
    exact (pssd_cons (psd_par 0 1 rfl sc_divisor.nd (pd_abs T.n_abs (pd_var 0)) (pd_abs T.n_abs (pd_var 1)))
    (pssd_cons (psd_while hp (ptd_cmp c_gt (pd_var 1) pd_int)
    (pssd_one (psd_par 0 1 rfl sc_divisor.nd (pd_var 1) (pd_mod (pd_var 0) (pd_var 1)))))
    (pssd_one (psd_ret (pd_var 0)))))
abbrev s_is_fraction : Stmt := topS 19
abbrev N_is_fraction : List Str := ["value", "one"]
theorem sc_is_fraction : FnScope N_is_fraction ["value"] (defScope s_is_fraction) := ⟨rfl, rfl, rfl, by decide +kernel, rfl, by decide +kernel, by decide +kernel⟩
noncomputable def b_is_fraction : Sm := (seqS (ifS (orT (notT (truthD (callD 2 m_is_tuple (consD (varD 0) (consD (constD (.int 2)) nilD))))) (truthD (shareO (lcO (itemsD (varD 0)) [1] (nameT 1) (orT (notT (truthD (unD (isiD "int") (varD 1)))) (truthD (unD (isiD "bool") (varD 1)))) (varD 1)))))
  (retS (constD (.bool false)))
  nextS)
  (retS (andV (opD (cmpD fun i j => decide (j < i)) (opD ixD (varD 0) (constD (.int 1))) (constD (.int 0))) (opD eqD (callD 2 m_divisor (consD (opD ixD (varD 0) (constD (.int 0))) (consD (opD ixD (varD 0) (constD (.int 1))) nilD))) (constD (.int 1))))))
noncomputable def m_is_fraction : Fn := fnD 1 false b_is_fraction
theorem ok_is_fraction (T : Tx K mg cls) (D : Df K mg "is_fraction" s_is_fraction ["value"]) (k_is_tuple : Kept P w K mg base cls "is_tuple" ["value", "size"] false m_is_tuple 1) (k_divisor : Kept P w K mg base cls "divisor" ["one", "other"] false m_divisor 1) : Kept P w K mg base cls "is_fraction" ["value"] false m_is_fraction 2 :=
  fn_ok (body := b_is_fraction) D sc_is_fraction fun f cdv A outer s H E hr => by
    have tk := takes_of (X := cxOf (L2.CX P w) P w K mg base N_is_fraction "is_fraction" (defScope s_is_fraction) f cdv A outer s H E) (E := E) rfl rfl rfl rfl
    have hp := passes_of (X := cxOf (L2.CX P w) P w K mg base N_is_fraction "is_fraction" (defScope s_is_fraction) f cdv A outer s H E) rfl
    exact (pssd_cons (psd_if (PW.pt (pwd_or (ptd_not (ptd_val (pd_call k_is_tuple hr (by decide) tk (pad_cons (pd_var 0) (pad_cons pd_int pad_nil))))) (pwd_or1 (ptd_val (pd_share (po_lc (own := [("one", 1)]) rfl sc_is_fraction.nd (pid_seq (pd_var 0)) (blkOk_by (own := [("one", 1)]) (N := N_is_fraction) (sc := defScope s_is_fraction) (by decide +kernel)) (fun _ _ _ _ _ => (pgd_name 1 sc_is_fraction.nd)) (fun _ _ _ _ _ => (ptsd_one (PW.pt (pwd_or (ptd_not (ptd_val (pd_isi kit_int T.n_isinstance T.n_int PyProof.Rows.boot_int (pd_var 1)))) (pwd_or1 (ptd_val (pd_isi kit_bool T.n_isinstance T.n_bool PyProof.Rows.boot_bool (pd_var 1)))))))) (fun _ _ _ _ _ => (pd_var 1))))))))
    (pssd_one (psd_ret pd_bl))
    pssd_nil)
    (pssd_one (psd_ret (pd_and (pd_cmp c_gt (pd_ix (pd_var 0) pd_int) pd_int) (pd_one (pd_cmp (c_eq hr) (pd_call k_divisor hr (by decide) tk (pad_cons (pd_ix (pd_var 0) pd_int) (pad_cons (pd_ix (pd_var 0) pd_int) pad_nil))) pd_int))))))
abbrev s_is_share : Stmt := topS 24
abbrev N_is_share : List Str := ["value"]
theorem sc_is_share : FnScope N_is_share ["value"] (defScope s_is_share) := ⟨rfl, rfl, rfl, by decide +kernel, rfl, by decide +kernel, by decide +kernel⟩
noncomputable def b_is_share : Sm := (retS (andV (callD 1 m_is_fraction (consD (varD 0) nilD)) (chain3D (cmpD fun i j => decide (i ≤ j)) (cmpD fun i j => decide (i ≤ j)) (cmpD fun i j => decide (i ≤ j)) (constD (.int 1)) (opD ixD (varD 0) (constD (.int 0))) (opD ixD (varD 0) (constD (.int 1))) (constD (.int 20)))))
noncomputable def m_is_share : Fn := fnD 0 false b_is_share
theorem ok_is_share (T : Tx K mg cls) (D : Df K mg "is_share" s_is_share ["value"]) (k_is_fraction : Kept P w K mg base cls "is_fraction" ["value"] false m_is_fraction 2) : Kept P w K mg base cls "is_share" ["value"] false m_is_share 3 :=
  fn_ok (body := b_is_share) D sc_is_share fun f cdv A outer s H E hr => by
    have tk := takes_of (X := cxOf (L2.CX P w) P w K mg base N_is_share "is_share" (defScope s_is_share) f cdv A outer s H E) (E := E) rfl rfl rfl rfl
    have hp := passes_of (X := cxOf (L2.CX P w) P w K mg base N_is_share "is_share" (defScope s_is_share) f cdv A outer s H E) rfl
    exact (pssd_one (psd_ret (pd_and (pd_call k_is_fraction hr (by decide) tk (pad_cons (pd_var 0) pad_nil)) (pd_one (pd_chain3 c_le c_le c_le pd_int (pd_ix (pd_var 0) pd_int) (pd_ix (pd_var 0) pd_int) (pd_globI T.c_MOST_SHARE))))))
abbrev s_is_within : Stmt := topS 7
abbrev N_is_within : List Str := ["value", "least", "most"]
theorem sc_is_within : FnScope N_is_within ["value", "least", "most"] (defScope s_is_within) := ⟨rfl, rfl, rfl, by decide +kernel, rfl, by decide +kernel, by decide +kernel⟩
noncomputable def b_is_within : Sm := (retS (andV (unD (isiD "int") (varD 0)) (andV (notV (unD (isiD "bool") (varD 0))) (chainD (cmpD fun i j => decide (i ≤ j)) (cmpD fun i j => decide (i ≤ j)) (varD 1) (varD 0) (varD 2)))))
noncomputable def m_is_within : Fn := fnD 0 false b_is_within
theorem ok_is_within (T : Tx K mg cls) (D : Df K mg "is_within" s_is_within ["value", "least", "most"])  : Kept P w K mg base cls "is_within" ["value", "least", "most"] false m_is_within 1 :=
  fn_ok (body := b_is_within) D sc_is_within fun f cdv A outer s H E hr => by
    have tk := takes_of (X := cxOf (L2.CX P w) P w K mg base N_is_within "is_within" (defScope s_is_within) f cdv A outer s H E) (E := E) rfl rfl rfl rfl
    have hp := passes_of (X := cxOf (L2.CX P w) P w K mg base N_is_within "is_within" (defScope s_is_within) f cdv A outer s H E) rfl
    exact (pssd_one (psd_ret (pd_and (pd_isi kit_int T.n_isinstance T.n_int PyProof.Rows.boot_int (pd_var 0)) (pd_and (pd_not (pd_isi kit_bool T.n_isinstance T.n_bool PyProof.Rows.boot_bool (pd_var 0))) (pd_one (pd_chain c_le c_le (pd_var 1) (pd_var 0) (pd_var 2)))))))
abbrev s_is_way_of : Stmt := topS 23
abbrev N_is_way_of : List Str := ["value", "owners"]
theorem sc_is_way_of : FnScope N_is_way_of ["value", "owners"] (defScope s_is_way_of) := ⟨rfl, rfl, rfl, by decide +kernel, rfl, by decide +kernel, by decide +kernel⟩
noncomputable def b_is_way_of : Sm := (seqS (ifS (orT (notT (truthD (callD 2 m_is_tuple (consD (varD 0) (consD (constD (.int 4)) nilD))))) (notT (truthD (callD 3 m_is_within (consD (opD ixD (varD 0) (constD (.int 0))) (consD (constD (.int 0)) (consD (opD subD (unD lenD (varD 1)) (constD (.int 1))) nilD)))))))
  (retS (constD (.bool false)))
  nextS)
  (seqS (ifS (orT (notT (truthD (callD 3 m_is_within (consD (opD ixD (varD 0) (constD (.int 1))) (consD (constD (.int 0)) (consD (opD subD (unD lenD (varD 1)) (constD (.int 1))) nilD)))))) (notT (truthD (callD 3 m_is_within (consD (opD ixD (varD 0) (constD (.int 2))) (consD (unD negD (constD (.int 8))) (consD (constD (.int 8)) nilD)))))))
  (retS (constD (.bool false)))
  nextS)
  (retS (andV (callD 1 m_is_share (consD (opD ixD (varD 0) (constD (.int 3))) nilD)) (orV (opD eqD (opD ixD (varD 1) (opD ixD (varD 0) (constD (.int 0)))) (constD (.int 2))) (opD eqD (opD ixD (varD 0) (constD (.int 3))) (tupD (consD (constD (.int 1)) (consD (constD (.int 1)) nilD)))))))))
noncomputable def m_is_way_of : Fn := fnD 0 false b_is_way_of
theorem ok_is_way_of (T : Tx K mg cls) (D : Df K mg "is_way_of" s_is_way_of ["value", "owners"]) (k_is_tuple : Kept P w K mg base cls "is_tuple" ["value", "size"] false m_is_tuple 1) (k_is_within : Kept P w K mg base cls "is_within" ["value", "least", "most"] false m_is_within 1) (k_is_share : Kept P w K mg base cls "is_share" ["value"] false m_is_share 3) : Kept P w K mg base cls "is_way_of" ["value", "owners"] false m_is_way_of 4 :=
  fn_ok (body := b_is_way_of) D sc_is_way_of fun f cdv A outer s H E hr => by
    have tk := takes_of (X := cxOf (L2.CX P w) P w K mg base N_is_way_of "is_way_of" (defScope s_is_way_of) f cdv A outer s H E) (E := E) rfl rfl rfl rfl
    have hp := passes_of (X := cxOf (L2.CX P w) P w K mg base N_is_way_of "is_way_of" (defScope s_is_way_of) f cdv A outer s H E) rfl
    exact (pssd_cons (psd_if (PW.pt (pwd_or (ptd_not (ptd_val (pd_call k_is_tuple hr (by decide) tk (pad_cons (pd_var 0) (pad_cons pd_int pad_nil))))) (pwd_or1 (ptd_not (ptd_val (pd_call k_is_within hr (by decide) tk (pad_cons (pd_ix (pd_var 0) pd_int) (pad_cons pd_int (pad_cons (pd_sub (pd_len T.n_len (pd_var 1)) pd_int) pad_nil)))))))))
    (pssd_one (psd_ret pd_bl))
    pssd_nil)
    (pssd_cons (psd_if (PW.pt (pwd_or (ptd_not (ptd_val (pd_call k_is_within hr (by decide) tk (pad_cons (pd_ix (pd_var 0) pd_int) (pad_cons pd_int (pad_cons (pd_sub (pd_len T.n_len (pd_var 1)) pd_int) pad_nil)))))) (pwd_or1 (ptd_not (ptd_val (pd_call k_is_within hr (by decide) tk (pad_cons (pd_ix (pd_var 0) pd_int) (pad_cons (pd_neg (pd_globI T.c_MOST_AMOUNT)) (pad_cons (pd_globI T.c_MOST_AMOUNT) pad_nil)))))))))
    (pssd_one (psd_ret pd_bl))
    pssd_nil)
    (pssd_one (psd_ret (pd_and (pd_call k_is_share hr (by decide) tk (pad_cons (pd_ix (pd_var 0) pd_int) pad_nil)) (pd_one (pd_or (pd_cmp (c_eq hr) (pd_ix (pd_var 1) (pd_ix (pd_var 0) pd_int)) pd_int) (pd_one (pd_cmp (c_eq hr) (pd_ix (pd_var 0) pd_int) (pd_tup (pad_cons pd_int (pad_cons pd_int pad_nil))))))))))))
abbrev s_fraction : Stmt := topS 16
abbrev N_fraction : List Str := ["p", "q", "common"]
theorem sc_fraction : FnScope N_fraction ["p", "q"] (defScope s_fraction) := ⟨rfl, rfl, rfl, by decide +kernel, rfl, by decide +kernel, by decide +kernel⟩
noncomputable def b_fraction : Sm := (seqS (setS 2 (callD 2 m_divisor (consD (varD 0) (consD (varD 1) nilD))))
  (retS (ifD (boolD (opD (cmpD fun i j => decide (j < i)) (varD 1) (constD (.int 0)))) (tupD (consD (opD fdivW (varD 0) (varD 2)) (consD (opD fdivW (varD 1) (varD 2)) nilD))) (tupD (consD (opD fdivW (unD negD (varD 0)) (varD 2)) (consD (opD fdivW (unD negD (varD 1)) (varD 2)) nilD))))))
noncomputable def m_fraction : Fn := fnD 1 false b_fraction
theorem ok_fraction (T : Tx K mg cls) (D : Df K mg "fraction" s_fraction ["p", "q"]) (k_divisor : Kept P w K mg base cls "divisor" ["one", "other"] false m_divisor 1) : Kept P w K mg base cls "fraction" ["p", "q"] false m_fraction 2 :=
  fn_ok (body := b_fraction) D sc_fraction fun f cdv A outer s H E hr => by
    have tk := takes_of (X := cxOf (L2.CX P w) P w K mg base N_fraction "fraction" (defScope s_fraction) f cdv A outer s H E) (E := E) rfl rfl rfl rfl
    have hp := passes_of (X := cxOf (L2.CX P w) P w K mg base N_fraction "fraction" (defScope s_fraction) f cdv A outer s H E) rfl
    exact (pssd_cons (psd_set 2 sc_fraction.nd (pd_call k_divisor hr (by decide) tk (pad_cons (pd_var 0) (pad_cons (pd_var 1) pad_nil))))
    (pssd_one (psd_ret (pd_if (ptd_cmp c_gt (pd_var 1) pd_int) (pd_tup (pad_cons (pd_fdivW (pd_var 0) (pd_var 2)) (pad_cons (pd_fdivW (pd_var 1) (pd_var 2)) pad_nil))) (pd_tup (pad_cons (pd_fdivW (pd_neg (pd_var 0)) (pd_var 2)) (pad_cons (pd_fdivW (pd_neg (pd_var 1)) (pd_var 2)) pad_nil)))))))
abbrev s_plus : Stmt := topS 17
abbrev N_plus : List Str := ["one", "other"]
theorem sc_plus : FnScope N_plus ["one", "other"] (defScope s_plus) := ⟨rfl, rfl, rfl, by decide +kernel, rfl, by decide +kernel, by decide +kernel⟩
noncomputable def b_plus : Sm := (retS (callD 2 m_fraction (consD (opD addD (opD mulW (opD ixD (varD 0) (constD (.int 0))) (opD ixD (varD 1) (constD (.int 1)))) (opD mulW (opD ixD (varD 1) (constD (.int 0))) (opD ixD (varD 0) (constD (.int 1))))) (consD (opD mulW (opD ixD (varD 0) (constD (.int 1))) (opD ixD (varD 1) (constD (.int 1)))) nilD))))
noncomputable def m_plus : Fn := fnD 0 false b_plus
theorem ok_plus (T : Tx K mg cls) (D : Df K mg "plus" s_plus ["one", "other"]) (k_fraction : Kept P w K mg base cls "fraction" ["p", "q"] false m_fraction 2) : Kept P w K mg base cls "plus" ["one", "other"] false m_plus 3 :=
  fn_ok (body := b_plus) D sc_plus fun f cdv A outer s H E hr => by
    have tk := takes_of (X := cxOf (L2.CX P w) P w K mg base N_plus "plus" (defScope s_plus) f cdv A outer s H E) (E := E) rfl rfl rfl rfl
    have hp := passes_of (X := cxOf (L2.CX P w) P w K mg base N_plus "plus" (defScope s_plus) f cdv A outer s H E) rfl
    exact (pssd_one (psd_ret (pd_call k_fraction hr (by decide) tk (pad_cons (pd_add (pd_mulW (pd_ix (pd_var 0) pd_int) (pd_ix (pd_var 1) pd_int)) (pd_mulW (pd_ix (pd_var 1) pd_int) (pd_ix (pd_var 0) pd_int))) (pad_cons (pd_mulW (pd_ix (pd_var 0) pd_int) (pd_ix (pd_var 1) pd_int)) pad_nil)))))
abbrev s_sum_of : Stmt := topS 26
abbrev N_sum_of : List Str := ["shares", "found", "share"]
theorem sc_sum_of : FnScope N_sum_of ["shares"] (defScope s_sum_of) := ⟨rfl, rfl, rfl, by decide +kernel, rfl, by decide +kernel, by decide +kernel⟩
noncomputable def b_sum_of : Sm := (seqS (setS 1 (tupD (consD (constD (.int 0)) (consD (constD (.int 1)) nilD))))
  (seqS (forS (itemsD (varD 0)) (nameT 2)
  (setS 1 (callD 2 m_plus (consD (varD 1) (consD (varD 2) nilD)))))
  (retS (varD 1))))
noncomputable def m_sum_of : Fn := fnD 2 false b_sum_of
theorem ok_sum_of (T : Tx K mg cls) (D : Df K mg "sum_of" s_sum_of ["shares"]) (k_plus : Kept P w K mg base cls "plus" ["one", "other"] false m_plus 3) : Kept P w K mg base cls "sum_of" ["shares"] false m_sum_of 4 :=
  fn_ok (body := b_sum_of) D sc_sum_of fun f cdv A outer s H E hr => by
    have tk := takes_of (X := cxOf (L2.CX P w) P w K mg base N_sum_of "sum_of" (defScope s_sum_of) f cdv A outer s H E) (E := E) rfl rfl rfl rfl
    have hp := passes_of (X := cxOf (L2.CX P w) P w K mg base N_sum_of "sum_of" (defScope s_sum_of) f cdv A outer s H E) rfl
    exact (pssd_cons (psd_set 1 sc_sum_of.nd (pd_tup (pad_cons pd_int (pad_cons pd_int pad_nil))))
    (pssd_cons (psd_for hp rfl (pid_seq (pd_var 0)) (pgd_name 2 sc_sum_of.nd)
    (pssd_one (psd_set 1 sc_sum_of.nd (pd_call k_plus hr (by decide) tk (pad_cons (pd_var 1) (pad_cons (pd_var 2) pad_nil))))))
    (pssd_one (psd_ret (pd_var 1)))))
abbrev s_is_lottery : Stmt := topS 27
abbrev N_is_lottery : List Str := ["value", "room", "owners", "ways", "places", "one", "way", "k"]
theorem sc_is_lottery : FnScope N_is_lottery ["value"] (defScope s_is_lottery) := ⟨rfl, rfl, rfl, by decide +kernel, rfl, by decide +kernel, by decide +kernel⟩
noncomputable def b_is_lottery : Sm := (seqS (ifS (orT (notT (truthD (callD 2 m_is_tuple (consD (varD 0) (consD (constD (.int 2)) nilD))))) (orT (notT (truthD (unD (isiD "tuple") (opD ixD (varD 0) (constD (.int 0)))))) (notT (boolD (chainD (cmpD fun i j => decide (i ≤ j)) (cmpD fun i j => decide (i ≤ j)) (constD (.int 1)) (unD lenD (opD ixD (varD 0) (constD (.int 0)))) (constD (.int 8)))))))
  (retS (constD (.bool false)))
  nextS)
  (seqS (asgS (varD 0) (tupT (consT (nameT 2) (consT (nameT 3) nilT))))
  (seqS (ifS (truthD (shareO (lcO (itemsD (varD 2)) [5] (nameT 5) (orT (notT (truthD (callD 3 m_is_within (consD (varD 5) (consD (constD (.int 0)) (consD (constD (.int 2)) nilD)))))) (boolD (opD eqD (varD 5) (constD (.int 1))))) (varD 5))))
  (retS (constD (.bool false)))
  nextS)
  (seqS (ifS (orT (notT (truthD (unD (isiD "tuple") (varD 3)))) (notT (boolD (chainD (cmpD fun i j => decide (i ≤ j)) (cmpD fun i j => decide (i ≤ j)) (constD (.int 1)) (unD lenD (varD 3)) (constD (.int 24))))))
  (retS (constD (.bool false)))
  nextS)
  (seqS (ifS (truthD (shareO (lcO (itemsD (varD 3)) [6] (nameT 6) (notT (truthD (callD 2 m_is_way_of (consD (varD 6) (consD (varD 2) nilD))))) (varD 6))))
  (retS (constD (.bool false)))
  nextS)
  (seqS (forS (rangeD (unD lenD (varD 2))) (nameT 1)
  (seqS (setS 4 (callD 2 m_places_from (consD (varD 0) (consD (varD 1) nilD))))
  (ifS (orT (notT (truthD (varD 4))) (andT (boolD (opD eqD (opD ixD (varD 2) (varD 1)) (constD (.int 2)))) (boolD (opD neD (callD 1 m_sum_of (consD (shareO (lcO (itemsD (varD 4)) [7] (nameT 7) yesT (opD ixD (opD ixD (varD 3) (varD 7)) (constD (.int 3))))) nilD)) (tupD (consD (constD (.int 1)) (consD (constD (.int 1)) nilD)))))))
  (retS (constD (.bool false)))
  nextS)))
  (retS (constD (.bool true)))))))))
noncomputable def m_is_lottery : Fn := fnD 7 false b_is_lottery
theorem ok_is_lottery (T : Tx K mg cls) (D : Df K mg "is_lottery" s_is_lottery ["value"]) (k_is_tuple : Kept P w K mg base cls "is_tuple" ["value", "size"] false m_is_tuple 1) (k_is_within : Kept P w K mg base cls "is_within" ["value", "least", "most"] false m_is_within 1) (k_is_way_of : Kept P w K mg base cls "is_way_of" ["value", "owners"] false m_is_way_of 4) (k_places_from : Kept P w K mg base cls "places_from" ["lottery", "room"] false m_places_from 1) (k_sum_of : Kept P w K mg base cls "sum_of" ["shares"] false m_sum_of 4) : Kept P w K mg base cls "is_lottery" ["value"] false m_is_lottery 5 :=
  fn_ok (body := b_is_lottery) D sc_is_lottery fun f cdv A outer s H E hr => by
    have tk := takes_of (X := cxOf (L2.CX P w) P w K mg base N_is_lottery "is_lottery" (defScope s_is_lottery) f cdv A outer s H E) (E := E) rfl rfl rfl rfl
    have hp := passes_of (X := cxOf (L2.CX P w) P w K mg base N_is_lottery "is_lottery" (defScope s_is_lottery) f cdv A outer s H E) rfl
    exact (pssd_cons (psd_if (PW.pt (pwd_or (ptd_not (ptd_val (pd_call k_is_tuple hr (by decide) tk (pad_cons (pd_var 0) (pad_cons pd_int pad_nil))))) (pwd_or (ptd_not (ptd_val (pd_isi kit_tuple T.n_isinstance T.n_tuple PyProof.Rows.boot_tuple (pd_ix (pd_var 0) pd_int)))) (pwd_or1 (ptd_not (ptd_chain c_le c_le pd_int (pd_len T.n_len (pd_ix (pd_var 0) pd_int)) (pd_globI T.c_MOST_ROOMS)))))))
    (pssd_one (psd_ret pd_bl))
    pssd_nil)
    (pssd_cons (psd_asg (pd_var 0) (pgd_tup rfl (pgsd_cons (pgd_name 2 sc_is_lottery.nd) (pgsd_cons (pgd_name 3 sc_is_lottery.nd) pgsd_nil)) len2))
    (pssd_cons (psd_if (ptd_val (pd_share (po_lc (own := [("one", 5)]) rfl sc_is_lottery.nd (pid_seq (pd_var 2)) (blkOk_by (own := [("one", 5)]) (N := N_is_lottery) (sc := defScope s_is_lottery) (by decide +kernel)) (fun _ _ _ _ _ => (pgd_name 5 sc_is_lottery.nd)) (fun _ _ _ _ _ => (ptsd_one (PW.pt (pwd_or (ptd_not (ptd_val (pd_call k_is_within hr (by decide) takes0 (pad_cons (pd_var 5) (pad_cons pd_int (pad_cons pd_int pad_nil)))))) (pwd_or1 (ptd_cmp (c_eq hr) (pd_var 5) pd_int)))))) (fun _ _ _ _ _ => (pd_var 5)))))
    (pssd_one (psd_ret pd_bl))
    pssd_nil)
    (pssd_cons (psd_if (PW.pt (pwd_or (ptd_not (ptd_val (pd_isi kit_tuple T.n_isinstance T.n_tuple PyProof.Rows.boot_tuple (pd_var 3)))) (pwd_or1 (ptd_not (ptd_chain c_le c_le pd_int (pd_len T.n_len (pd_var 3)) (pd_globI T.c_MOST_WAYS))))))
    (pssd_one (psd_ret pd_bl))
    pssd_nil)
    (pssd_cons (psd_if (ptd_val (pd_share (po_lc (own := [("way", 6)]) rfl sc_is_lottery.nd (pid_seq (pd_var 3)) (blkOk_by (own := [("way", 6)]) (N := N_is_lottery) (sc := defScope s_is_lottery) (by decide +kernel)) (fun _ _ _ _ _ => (pgd_name 6 sc_is_lottery.nd)) (fun _ _ _ _ _ => (ptsd_one (ptd_not (ptd_val (pd_call k_is_way_of hr (by decide) takes0 (pad_cons (pd_var 6) (pad_cons (pd_var 2) pad_nil))))))) (fun _ _ _ _ _ => (pd_var 6)))))
    (pssd_one (psd_ret pd_bl))
    pssd_nil)
    (pssd_cons (psd_for hp rfl (pid_range T.n_range (pd_len T.n_len (pd_var 2))) (pgd_name 1 sc_is_lottery.nd)
    (pssd_cons (psd_set 4 sc_is_lottery.nd (pd_call k_places_from hr (by decide) tk (pad_cons (pd_var 0) (pad_cons (pd_var 1) pad_nil))))
    (pssd_one (psd_if (PW.pt (pwd_or (ptd_not (ptd_val (pd_var 4))) (pwd_or1 (PW.pt (pwd_and (ptd_cmp (c_eq hr) (pd_ix (pd_var 2) (pd_var 1)) pd_int) (pwd_and1 (ptd_cmp (c_ne hr) (pd_call k_sum_of hr (by decide) tk (pad_cons (pd_share (po_lc (own := [("k", 7)]) rfl sc_is_lottery.nd (pid_seq (pd_var 4)) (blkOk_by (own := [("k", 7)]) (N := N_is_lottery) (sc := defScope s_is_lottery) (by decide +kernel)) (fun _ _ _ _ _ => (pgd_name 7 sc_is_lottery.nd)) (fun _ _ _ _ _ => ptsd_nil) (fun _ _ _ _ _ => (pd_ix (pd_ix (pd_var 3) (pd_var 7)) pd_int)))) pad_nil)) (pd_tup (pad_cons pd_int (pad_cons pd_int pad_nil))))))))))
    (pssd_one (psd_ret pd_bl))
    pssd_nil))))
    (pssd_one (psd_ret pd_bl))))))))
abbrev s_check_lottery : Stmt := topS 28
abbrev N_check_lottery : List Str := ["lottery"]
theorem sc_check_lottery : FnScope N_check_lottery ["lottery"] (defScope s_check_lottery) := ⟨rfl, rfl, rfl, by decide +kernel, rfl, by decide +kernel, by decide +kernel⟩
noncomputable def b_check_lottery : Sm := (ifS (notT (truthD (callD 1 m_is_lottery (consD (varD 0) nilD))))
  (raiseS 0)
  nextS)
noncomputable def m_check_lottery : Fn := fnD 0 false b_check_lottery
theorem ok_check_lottery (T : Tx K mg cls) (D : Df K mg "check_lottery" s_check_lottery ["lottery"]) (k_is_lottery : Kept P w K mg base cls "is_lottery" ["value"] false m_is_lottery 5) : Kept P w K mg base cls "check_lottery" ["lottery"] false m_check_lottery 6 :=
  fn_ok (body := b_check_lottery) D sc_check_lottery fun f cdv A outer s H E hr => by
    have tk := takes_of (X := cxOf (L2.CX P w) P w K mg base N_check_lottery "check_lottery" (defScope s_check_lottery) f cdv A outer s H E) (E := E) rfl rfl rfl rfl
    have hp := passes_of (X := cxOf (L2.CX P w) P w K mg base N_check_lottery "check_lottery" (defScope s_check_lottery) f cdv A outer s H E) rfl
    exact (pssd_one (psd_if (ptd_not (ptd_val (pd_call k_is_lottery hr (by decide) tk (pad_cons (pd_var 0) pad_nil))))
    (pssd_one (psd_raise T.e_0 rfl tk))
    pssd_nil))
abbrev s_is_choice_of : Stmt := topS 29
abbrev N_is_choice_of : List Str := ["lottery", "plan", "room"]
theorem sc_is_choice_of : FnScope N_is_choice_of ["lottery", "plan"] (defScope s_is_choice_of) := ⟨rfl, rfl, rfl, by decide +kernel, rfl, by decide +kernel, by decide +kernel⟩
noncomputable def b_is_choice_of : Sm := (seqS (ifS (notT (truthD (callD 2 m_is_tuple (consD (varD 1) (consD (unD lenD (opD ixD (varD 0) (constD (.int 0)))) nilD)))))
  (retS (constD (.bool false)))
  nextS)
  (seqS (forS (rangeD (unD lenD (varD 1))) (nameT 2)
  (ifS (boolD (opD eqD (opD ixD (opD ixD (varD 0) (constD (.int 0))) (varD 2)) (constD (.int 2))))
  (ifS (boolD (unD notNoneD (opD ixD (varD 1) (varD 2))))
  (retS (constD (.bool false)))
  nextS)
  (ifS (orT (notT (truthD (callD 3 m_is_within (consD (opD ixD (varD 1) (varD 2)) (consD (constD (.int 0)) (consD (opD subD (unD lenD (opD ixD (varD 0) (constD (.int 1)))) (constD (.int 1))) nilD)))))) (boolD (opD neD (opD ixD (opD ixD (opD ixD (varD 0) (constD (.int 1))) (opD ixD (varD 1) (varD 2))) (constD (.int 0))) (varD 2))))
  (retS (constD (.bool false)))
  nextS)))
  (retS (constD (.bool true)))))
noncomputable def m_is_choice_of : Fn := fnD 1 false b_is_choice_of
theorem ok_is_choice_of (T : Tx K mg cls) (D : Df K mg "is_choice_of" s_is_choice_of ["lottery", "plan"]) (k_is_tuple : Kept P w K mg base cls "is_tuple" ["value", "size"] false m_is_tuple 1) (k_is_within : Kept P w K mg base cls "is_within" ["value", "least", "most"] false m_is_within 1) : Kept P w K mg base cls "is_choice_of" ["lottery", "plan"] false m_is_choice_of 2 :=
  fn_ok (body := b_is_choice_of) D sc_is_choice_of fun f cdv A outer s H E hr => by
    have tk := takes_of (X := cxOf (L2.CX P w) P w K mg base N_is_choice_of "is_choice_of" (defScope s_is_choice_of) f cdv A outer s H E) (E := E) rfl rfl rfl rfl
    have hp := passes_of (X := cxOf (L2.CX P w) P w K mg base N_is_choice_of "is_choice_of" (defScope s_is_choice_of) f cdv A outer s H E) rfl
    exact (pssd_cons (psd_if (ptd_not (ptd_val (pd_call k_is_tuple hr (by decide) tk (pad_cons (pd_var 1) (pad_cons (pd_len T.n_len (pd_ix (pd_var 0) pd_int)) pad_nil)))))
    (pssd_one (psd_ret pd_bl))
    pssd_nil)
    (pssd_cons (psd_for hp rfl (pid_range T.n_range (pd_len T.n_len (pd_var 1))) (pgd_name 2 sc_is_choice_of.nd)
    (pssd_one (psd_if (ptd_cmp (c_eq hr) (pd_ix (pd_ix (pd_var 0) pd_int) (pd_var 2)) pd_int)
    (pssd_one (psd_if (ptd_notN (pd_ix (pd_var 1) (pd_var 2)))
    (pssd_one (psd_ret pd_bl))
    pssd_nil))
    (pssd_one (psd_if (PW.pt (pwd_or (ptd_not (ptd_val (pd_call k_is_within hr (by decide) tk (pad_cons (pd_ix (pd_var 1) (pd_var 2)) (pad_cons pd_int (pad_cons (pd_sub (pd_len T.n_len (pd_ix (pd_var 0) pd_int)) pd_int) pad_nil)))))) (pwd_or1 (ptd_cmp (c_ne hr) (pd_ix (pd_ix (pd_ix (pd_var 0) pd_int) (pd_ix (pd_var 1) (pd_var 2))) pd_int) (pd_var 2)))))
    (pssd_one (psd_ret pd_bl))
    pssd_nil)))))
    (pssd_one (psd_ret pd_bl))))
abbrev s_is_choice : Stmt := topS 30
abbrev N_is_choice : List Str := ["lottery", "plan"]
theorem sc_is_choice : FnScope N_is_choice ["lottery", "plan"] (defScope s_is_choice) := ⟨rfl, rfl, rfl, by decide +kernel, rfl, by decide +kernel, by decide +kernel⟩
noncomputable def b_is_choice : Sm := (seqS (dropS (callD 1 m_check_lottery (consD (varD 0) nilD)))
  (retS (callD 2 m_is_choice_of (consD (varD 0) (consD (varD 1) nilD)))))
noncomputable def m_is_choice : Fn := fnD 0 false b_is_choice
theorem ok_is_choice (T : Tx K mg cls) (D : Df K mg "is_choice" s_is_choice ["lottery", "plan"]) (k_check_lottery : Kept P w K mg base cls "check_lottery" ["lottery"] false m_check_lottery 6) (k_is_choice_of : Kept P w K mg base cls "is_choice_of" ["lottery", "plan"] false m_is_choice_of 2) : Kept P w K mg base cls "is_choice" ["lottery", "plan"] false m_is_choice 7 :=
  fn_ok (body := b_is_choice) D sc_is_choice fun f cdv A outer s H E hr => by
    have tk := takes_of (X := cxOf (L2.CX P w) P w K mg base N_is_choice "is_choice" (defScope s_is_choice) f cdv A outer s H E) (E := E) rfl rfl rfl rfl
    have hp := passes_of (X := cxOf (L2.CX P w) P w K mg base N_is_choice "is_choice" (defScope s_is_choice) f cdv A outer s H E) rfl
    exact (pssd_cons (psd_expr (pd_call k_check_lottery hr (by decide) tk (pad_cons (pd_var 0) pad_nil)))
    (pssd_one (psd_ret (pd_call k_is_choice_of hr (by decide) tk (pad_cons (pd_var 0) (pad_cons (pd_var 1) pad_nil))))))
abbrev s_check_choice : Stmt := topS 31
abbrev N_check_choice : List Str := ["lottery", "plan"]
theorem sc_check_choice : FnScope N_check_choice ["lottery", "plan"] (defScope s_check_choice) := ⟨rfl, rfl, rfl, by decide +kernel, rfl, by decide +kernel, by decide +kernel⟩
noncomputable def b_check_choice : Sm := (seqS (dropS (callD 1 m_check_lottery (consD (varD 0) nilD)))
  (ifS (notT (truthD (callD 2 m_is_choice_of (consD (varD 0) (consD (varD 1) nilD)))))
  (raiseS 1)
  nextS))
noncomputable def m_check_choice : Fn := fnD 0 false b_check_choice
theorem ok_check_choice (T : Tx K mg cls) (D : Df K mg "check_choice" s_check_choice ["lottery", "plan"]) (k_check_lottery : Kept P w K mg base cls "check_lottery" ["lottery"] false m_check_lottery 6) (k_is_choice_of : Kept P w K mg base cls "is_choice_of" ["lottery", "plan"] false m_is_choice_of 2) : Kept P w K mg base cls "check_choice" ["lottery", "plan"] false m_check_choice 7 :=
  fn_ok (body := b_check_choice) D sc_check_choice fun f cdv A outer s H E hr => by
    have tk := takes_of (X := cxOf (L2.CX P w) P w K mg base N_check_choice "check_choice" (defScope s_check_choice) f cdv A outer s H E) (E := E) rfl rfl rfl rfl
    have hp := passes_of (X := cxOf (L2.CX P w) P w K mg base N_check_choice "check_choice" (defScope s_check_choice) f cdv A outer s H E) rfl
    exact (pssd_cons (psd_expr (pd_call k_check_lottery hr (by decide) tk (pad_cons (pd_var 0) pad_nil)))
    (pssd_one (psd_if (ptd_not (ptd_val (pd_call k_is_choice_of hr (by decide) tk (pad_cons (pd_var 0) (pad_cons (pd_var 1) pad_nil)))))
    (pssd_one (psd_raise T.e_1 rfl tk))
    pssd_nil)))
abbrev s_check_room : Stmt := topS 32
abbrev N_check_room : List Str := ["lottery", "room"]
theorem sc_check_room : FnScope N_check_room ["lottery", "room"] (defScope s_check_room) := ⟨rfl, rfl, rfl, by decide +kernel, rfl, by decide +kernel, by decide +kernel⟩
noncomputable def b_check_room : Sm := (ifS (notT (truthD (callD 3 m_is_within (consD (varD 1) (consD (constD (.int 0)) (consD (opD subD (unD lenD (opD ixD (varD 0) (constD (.int 0)))) (constD (.int 1))) nilD))))))
  (raiseS 1)
  nextS)
noncomputable def m_check_room : Fn := fnD 0 false b_check_room
theorem ok_check_room (T : Tx K mg cls) (D : Df K mg "check_room" s_check_room ["lottery", "room"]) (k_is_within : Kept P w K mg base cls "is_within" ["value", "least", "most"] false m_is_within 1) : Kept P w K mg base cls "check_room" ["lottery", "room"] false m_check_room 2 :=
  fn_ok (body := b_check_room) D sc_check_room fun f cdv A outer s H E hr => by
    have tk := takes_of (X := cxOf (L2.CX P w) P w K mg base N_check_room "check_room" (defScope s_check_room) f cdv A outer s H E) (E := E) rfl rfl rfl rfl
    have hp := passes_of (X := cxOf (L2.CX P w) P w K mg base N_check_room "check_room" (defScope s_check_room) f cdv A outer s H E) rfl
    exact (pssd_one (psd_if (ptd_not (ptd_val (pd_call k_is_within hr (by decide) tk (pad_cons (pd_var 1) (pad_cons pd_int (pad_cons (pd_sub (pd_len T.n_len (pd_ix (pd_var 0) pd_int)) pd_int) pad_nil))))))
    (pssd_one (psd_raise T.e_1 rfl tk))
    pssd_nil))
abbrev s_times : Stmt := topS 18
abbrev N_times : List Str := ["one", "other"]
theorem sc_times : FnScope N_times ["one", "other"] (defScope s_times) := ⟨rfl, rfl, rfl, by decide +kernel, rfl, by decide +kernel, by decide +kernel⟩
noncomputable def b_times : Sm := (retS (callD 2 m_fraction (consD (opD mulW (opD ixD (varD 0) (constD (.int 0))) (opD ixD (varD 1) (constD (.int 0)))) (consD (opD mulW (opD ixD (varD 0) (constD (.int 1))) (opD ixD (varD 1) (constD (.int 1)))) nilD))))
noncomputable def m_times : Fn := fnD 0 false b_times
theorem ok_times (T : Tx K mg cls) (D : Df K mg "times" s_times ["one", "other"]) (k_fraction : Kept P w K mg base cls "fraction" ["p", "q"] false m_fraction 2) : Kept P w K mg base cls "times" ["one", "other"] false m_times 3 :=
  fn_ok (body := b_times) D sc_times fun f cdv A outer s H E hr => by
    have tk := takes_of (X := cxOf (L2.CX P w) P w K mg base N_times "times" (defScope s_times) f cdv A outer s H E) (E := E) rfl rfl rfl rfl
    have hp := passes_of (X := cxOf (L2.CX P w) P w K mg base N_times "times" (defScope s_times) f cdv A outer s H E) rfl
    exact (pssd_one (psd_ret (pd_call k_fraction hr (by decide) tk (pad_cons (pd_mulW (pd_ix (pd_var 0) pd_int) (pd_ix (pd_var 1) pd_int)) (pad_cons (pd_mulW (pd_ix (pd_var 0) pd_int) (pd_ix (pd_var 1) pd_int)) pad_nil)))))
abbrev s_first_ways_chance : Stmt := topS 34
abbrev N_first_ways_chance : List Str := ["lottery", "plan", "room", "places", "found", "k", "source", "target", "amount", "share"]
theorem sc_first_ways_chance : FnScope N_first_ways_chance ["lottery", "plan", "room", "places"] (defScope s_first_ways_chance) := ⟨rfl, rfl, rfl, by decide +kernel, rfl, by decide +kernel, by decide +kernel⟩
noncomputable def b_first_ways_chance : Sm := (seqS (dropS (callD 2 m_check_choice (consD (varD 0) (consD (varD 1) nilD))))
  (seqS (dropS (callD 2 m_check_room (consD (varD 0) (consD (varD 2) nilD))))
  (seqS (ifS (orT (notT (truthD (unD (isiD "list") (varD 3)))) (boolD (opD (cmpD fun i j => decide (j < i)) (unD lenD (varD 3)) (constD (.int 60)))))
  (raiseS 1)
  nextS)
  (seqS (ifS (truthD (shareO (lcO (itemsD (varD 3)) [5] (nameT 5) (notT (truthD (callD 3 m_is_within (consD (varD 5) (consD (constD (.int 0)) (consD (opD subD (unD lenD (opD ixD (varD 0) (constD (.int 1)))) (constD (.int 1))) nilD)))))) (varD 5))))
  (raiseS 1)
  nextS)
  (seqS (setS 4 (tupD (consD (constD (.int 1)) (consD (constD (.int 1)) nilD))))
  (seqS (forS (itemsD (varD 3)) (nameT 5)
  (seqS (asgS (opD ixD (opD ixD (varD 0) (constD (.int 1))) (varD 5)) (tupT (consT (nameT 6) (consT (nameT 7) (consT (nameT 8) (consT (nameT 9) nilT))))))
  (seqS (ifS (orT (boolD (opD neD (varD 6) (varD 2))) (andT (boolD (unD notNoneD (opD ixD (varD 1) (varD 2)))) (boolD (opD neD (opD ixD (varD 1) (varD 2)) (varD 5)))))
  (retS (tupD (consD (constD (.int 0)) (consD (constD (.int 1)) nilD))))
  nextS)
  (seqS (setS 4 (callD 2 m_times (consD (varD 4) (consD (varD 9) nilD))))
  (setS 2 (varD 7))))))
  (retS (varD 4))))))))
noncomputable def m_first_ways_chance : Fn := fnD 6 false b_first_ways_chance
theorem ok_first_ways_chance (T : Tx K mg cls) (D : Df K mg "first_ways_chance" s_first_ways_chance ["lottery", "plan", "room", "places"]) (k_check_choice : Kept P w K mg base cls "check_choice" ["lottery", "plan"] false m_check_choice 7) (k_check_room : Kept P w K mg base cls "check_room" ["lottery", "room"] false m_check_room 2) (k_is_within : Kept P w K mg base cls "is_within" ["value", "least", "most"] false m_is_within 1) (k_times : Kept P w K mg base cls "times" ["one", "other"] false m_times 3) : Kept P w K mg base cls "first_ways_chance" ["lottery", "plan", "room", "places"] false m_first_ways_chance 8 :=
  fn_ok (body := b_first_ways_chance) D sc_first_ways_chance fun f cdv A outer s H E hr => by
    have tk := takes_of (X := cxOf (L2.CX P w) P w K mg base N_first_ways_chance "first_ways_chance" (defScope s_first_ways_chance) f cdv A outer s H E) (E := E) rfl rfl rfl rfl
    have hp := passes_of (X := cxOf (L2.CX P w) P w K mg base N_first_ways_chance "first_ways_chance" (defScope s_first_ways_chance) f cdv A outer s H E) rfl
    exact (pssd_cons (psd_expr (pd_call k_check_choice hr (by decide) tk (pad_cons (pd_var 0) (pad_cons (pd_var 1) pad_nil))))
    (pssd_cons (psd_expr (pd_call k_check_room hr (by decide) tk (pad_cons (pd_var 0) (pad_cons (pd_var 2) pad_nil))))
    (pssd_cons (psd_if (PW.pt (pwd_or (ptd_not (ptd_val (pd_isi kit_list T.n_isinstance T.n_list PyProof.Rows.boot_list (pd_var 3)))) (pwd_or1 (ptd_cmp c_gt (pd_len T.n_len (pd_var 3)) (pd_globI T.c_MOST_PLACES)))))
    (pssd_one (psd_raise T.e_1 rfl tk))
    pssd_nil)
    (pssd_cons (psd_if (ptd_val (pd_share (po_lc (own := [("k", 5)]) rfl sc_first_ways_chance.nd (pid_seq (pd_var 3)) (blkOk_by (own := [("k", 5)]) (N := N_first_ways_chance) (sc := defScope s_first_ways_chance) (by decide +kernel)) (fun _ _ _ _ _ => (pgd_name 5 sc_first_ways_chance.nd)) (fun _ _ _ _ _ => (ptsd_one (ptd_not (ptd_val (pd_call k_is_within hr (by decide) takes0 (pad_cons (pd_var 5) (pad_cons pd_int (pad_cons (pd_sub (pd_len T.n_len (pd_ix (pd_var 0) pd_int)) pd_int) pad_nil)))))))) (fun _ _ _ _ _ => (pd_var 5)))))
    (pssd_one (psd_raise T.e_1 rfl tk))
    pssd_nil)
    (pssd_cons (psd_set 4 sc_first_ways_chance.nd (pd_tup (pad_cons pd_int (pad_cons pd_int pad_nil))))
    (pssd_cons (psd_for hp rfl (pid_seq (pd_var 3)) (pgd_name 5 sc_first_ways_chance.nd)
    (pssd_cons (psd_asg (pd_ix (pd_ix (pd_var 0) pd_int) (pd_var 5)) (pgd_tup rfl (pgsd_cons (pgd_name 6 sc_first_ways_chance.nd) (pgsd_cons (pgd_name 7 sc_first_ways_chance.nd) (pgsd_cons (pgd_name 8 sc_first_ways_chance.nd) (pgsd_cons (pgd_name 9 sc_first_ways_chance.nd) pgsd_nil)))) len4))
    (pssd_cons (psd_if (PW.pt (pwd_or (ptd_cmp (c_ne hr) (pd_var 6) (pd_var 2)) (pwd_or1 (PW.pt (pwd_and (ptd_notN (pd_ix (pd_var 1) (pd_var 2))) (pwd_and1 (ptd_cmp (c_ne hr) (pd_ix (pd_var 1) (pd_var 2)) (pd_var 5))))))))
    (pssd_one (psd_ret (pd_tup (pad_cons pd_int (pad_cons pd_int pad_nil)))))
    pssd_nil)
    (pssd_cons (psd_set 4 sc_first_ways_chance.nd (pd_call k_times hr (by decide) tk (pad_cons (pd_var 4) (pad_cons (pd_var 9) pad_nil))))
    (pssd_one (psd_set 2 sc_first_ways_chance.nd (pd_var 7)))))))
    (pssd_one (psd_ret (pd_var 4)))))))))
abbrev s_check_steps : Stmt := topS 39
abbrev N_check_steps : List Str := ["k"]
theorem sc_check_steps : FnScope N_check_steps ["k"] (defScope s_check_steps) := ⟨rfl, rfl, rfl, by decide +kernel, rfl, by decide +kernel, by decide +kernel⟩
noncomputable def b_check_steps : Sm := (ifS (notT (truthD (callD 3 m_is_within (consD (varD 0) (consD (constD (.int 0)) (consD (constD (.int 40)) nilD))))))
  (raiseS 1)
  nextS)
noncomputable def m_check_steps : Fn := fnD 0 false b_check_steps
theorem ok_check_steps (T : Tx K mg cls) (D : Df K mg "check_steps" s_check_steps ["k"]) (k_is_within : Kept P w K mg base cls "is_within" ["value", "least", "most"] false m_is_within 1) : Kept P w K mg base cls "check_steps" ["k"] false m_check_steps 2 :=
  fn_ok (body := b_check_steps) D sc_check_steps fun f cdv A outer s H E hr => by
    have tk := takes_of (X := cxOf (L2.CX P w) P w K mg base N_check_steps "check_steps" (defScope s_check_steps) f cdv A outer s H E) (E := E) rfl rfl rfl rfl
    have hp := passes_of (X := cxOf (L2.CX P w) P w K mg base N_check_steps "check_steps" (defScope s_check_steps) f cdv A outer s H E) rfl
    exact (pssd_one (psd_if (ptd_not (ptd_val (pd_call k_is_within hr (by decide) tk (pad_cons (pd_var 0) (pad_cons pd_int (pad_cons (pd_globI T.c_MOST_STEPS) pad_nil))))))
    (pssd_one (psd_raise T.e_1 rfl tk))
    pssd_nil))
abbrev s_steps_from : Stmt := topS 33
abbrev N_steps_from : List Str := ["lottery", "plan", "found", "room", "places", "k"]
theorem sc_steps_from : FnScope N_steps_from ["lottery", "plan"] (defScope s_steps_from) := ⟨rfl, rfl, rfl, by decide +kernel, rfl, by decide +kernel, by decide +kernel⟩
noncomputable def b_steps_from : Sm := (seqS (setOS 2 (lstO nilD))
  (seqS (forS (rangeD (unD lenD (varD 1))) (nameT 3)
  (seqS (setS 4 (ifD (boolD (unD isNoneD (opD ixD (varD 1) (varD 3)))) (callD 2 m_places_from (consD (varD 0) (consD (varD 3) nilD))) (shareO (lstO (consD (opD ixD (varD 1) (varD 3)) nilD)))))
  (appS 2 (shareO (lcO (itemsD (varD 4)) [5] (nameT 5) yesT (slD (opD ixD (opD ixD (varD 0) (constD (.int 1))) (varD 5)) (somePart (constD (.int 1))) noPart))))))
  (shutS 2 (retS (varD 2)))))
noncomputable def m_steps_from : Fn := fnD 4 false b_steps_from
theorem ok_steps_from (T : Tx K mg cls) (D : Df K mg "steps_from" s_steps_from ["lottery", "plan"]) (k_places_from : Kept P w K mg base cls "places_from" ["lottery", "room"] false m_places_from 1) : Kept P w K mg base cls "steps_from" ["lottery", "plan"] false m_steps_from 2 :=
  fn_ok (body := b_steps_from) D sc_steps_from fun f cdv A outer s H E hr => by
    have tk := takes_of (X := cxOf (L2.CX P w) P w K mg base N_steps_from "steps_from" (defScope s_steps_from) f cdv A outer s H E) (E := E) rfl rfl rfl rfl
    have hp := passes_of (X := cxOf (L2.CX P w) P w K mg base N_steps_from "steps_from" (defScope s_steps_from) f cdv A outer s H E) rfl
    exact (pssd_cons (psd_setO 2 sc_steps_from.nd (po_lst pad_nil))
    (pssd_cons (psd_for hp rfl (pid_range T.n_range (pd_len T.n_len (pd_var 1))) (pgd_name 3 sc_steps_from.nd)
    (pssd_cons (psd_set 4 sc_steps_from.nd (pd_if (ptd_isN (pd_ix (pd_var 1) (pd_var 3))) (pd_call k_places_from hr (by decide) tk (pad_cons (pd_var 0) (pad_cons (pd_var 3) pad_nil))) (pd_share (po_lst (pad_cons (pd_ix (pd_var 1) (pd_var 3)) pad_nil)))))
    (pssd_one (psd_app 2 (pd_share (po_lc (own := [("k", 5)]) rfl sc_steps_from.nd (pid_seq (pd_var 4)) (blkOk_by (own := [("k", 5)]) (N := N_steps_from) (sc := defScope s_steps_from) (by decide +kernel)) (fun _ _ _ _ _ => (pgd_name 5 sc_steps_from.nd)) (fun _ _ _ _ _ => ptsd_nil) (fun _ _ _ _ _ => (pd_slice (pd_ix (pd_ix (pd_var 0) pd_int) (pd_var 5)) (po_so pd_int) po_no))))))))
    (pssd_shut 2 (pssd_one (psd_ret (pd_var 2))))))
abbrev s_next_spread : Stmt := topS 40
abbrev N_next_spread : List Str := ["steps", "spread", "found", "place", "target", "amount", "share"]
theorem sc_next_spread : FnScope N_next_spread ["steps", "spread"] (defScope s_next_spread) := ⟨rfl, rfl, rfl, by decide +kernel, rfl, by decide +kernel, by decide +kernel⟩
noncomputable def b_next_spread : Sm := (seqS (setOS 2 (mulO (shareO (lstO (consD (tupD (consD (constD (.int 0)) (consD (constD (.int 1)) nilD))) nilD))) (unD lenD (varD 1))))
  (seqS (forS (rangeD (unD lenD (varD 1))) (nameT 3)
  (forS (itemsD (opD ixD (varD 0) (varD 3))) (tupT (consT (nameT 4) (consT (nameT 5) (consT (nameT 6) nilT))))
  (setIxS 2 (varD 4) (callD 2 m_plus (consD (ixO 2 (varD 4)) (consD (callD 2 m_times (consD (opD ixD (varD 1) (varD 3)) (consD (varD 6) nilD))) nilD))))))
  (shutS 2 (retS (varD 2)))))
noncomputable def m_next_spread : Fn := fnD 5 false b_next_spread
theorem ok_next_spread (T : Tx K mg cls) (D : Df K mg "next_spread" s_next_spread ["steps", "spread"]) (k_plus : Kept P w K mg base cls "plus" ["one", "other"] false m_plus 3) (k_times : Kept P w K mg base cls "times" ["one", "other"] false m_times 3) : Kept P w K mg base cls "next_spread" ["steps", "spread"] false m_next_spread 4 :=
  fn_ok (body := b_next_spread) D sc_next_spread fun f cdv A outer s H E hr => by
    have tk := takes_of (X := cxOf (L2.CX P w) P w K mg base N_next_spread "next_spread" (defScope s_next_spread) f cdv A outer s H E) (E := E) rfl rfl rfl rfl
    have hp := passes_of (X := cxOf (L2.CX P w) P w K mg base N_next_spread "next_spread" (defScope s_next_spread) f cdv A outer s H E) rfl
    exact (pssd_cons (psd_setO 2 sc_next_spread.nd (po_mul (pd_share (po_lst (pad_cons (pd_tup (pad_cons pd_int (pad_cons pd_int pad_nil))) pad_nil))) (pd_len T.n_len (pd_var 1))))
    (pssd_cons (psd_for hp rfl (pid_range T.n_range (pd_len T.n_len (pd_var 1))) (pgd_name 3 sc_next_spread.nd)
    (pssd_one (psd_for hp rfl (pid_seq (pd_ix (pd_var 0) (pd_var 3))) (pgd_tup rfl (pgsd_cons (pgd_name 4 sc_next_spread.nd) (pgsd_cons (pgd_name 5 sc_next_spread.nd) (pgsd_cons (pgd_name 6 sc_next_spread.nd) pgsd_nil))) len3)
    (pssd_one (psd_setIx 2 (pd_var 4) (pd_call k_plus hr (by decide) tk (pad_cons (pd_ixO 2 (pd_var 4)) (pad_cons (pd_call k_times hr (by decide) tk (pad_cons (pd_ix (pd_var 1) (pd_var 3)) (pad_cons (pd_var 6) pad_nil))) pad_nil))))))))
    (pssd_shut 2 (pssd_one (psd_ret (pd_var 2))))))
abbrev s_spreads : Stmt := topS 41
abbrev N_spreads : List Str := ["lottery", "plan", "room", "k", "steps", "found", "turn", "other"]
theorem sc_spreads : FnScope N_spreads ["lottery", "plan", "room", "k"] (defScope s_spreads) := ⟨rfl, rfl, rfl, by decide +kernel, rfl, by decide +kernel, by decide +kernel⟩
noncomputable def b_spreads : Sm := (seqS (setS 4 (callD 2 m_steps_from (consD (varD 0) (consD (varD 1) nilD))))
  (seqS (setOS 5 (lstO (consD (shareO (lcO (rangeD (unD lenD (varD 4))) [7] (nameT 7) yesT (ifD (boolD (opD eqD (varD 7) (varD 2))) (tupD (consD (constD (.int 1)) (consD (constD (.int 1)) nilD))) (tupD (consD (constD (.int 0)) (consD (constD (.int 1)) nilD)))))) nilD)))
  (seqS (forS (rangeD (varD 3)) (nameT 6)
  (appS 5 (callD 2 m_next_spread (consD (varD 4) (consD (ixO 5 (unD negD (constD (.int 1)))) nilD)))))
  (shutS 5 (retS (varD 5))))))
noncomputable def m_spreads : Fn := fnD 4 false b_spreads
theorem ok_spreads (T : Tx K mg cls) (D : Df K mg "spreads" s_spreads ["lottery", "plan", "room", "k"]) (k_steps_from : Kept P w K mg base cls "steps_from" ["lottery", "plan"] false m_steps_from 2) (k_next_spread : Kept P w K mg base cls "next_spread" ["steps", "spread"] false m_next_spread 4) : Kept P w K mg base cls "spreads" ["lottery", "plan", "room", "k"] false m_spreads 5 :=
  fn_ok (body := b_spreads) D sc_spreads fun f cdv A outer s H E hr => by
    have tk := takes_of (X := cxOf (L2.CX P w) P w K mg base N_spreads "spreads" (defScope s_spreads) f cdv A outer s H E) (E := E) rfl rfl rfl rfl
    have hp := passes_of (X := cxOf (L2.CX P w) P w K mg base N_spreads "spreads" (defScope s_spreads) f cdv A outer s H E) rfl
    exact (pssd_cons (psd_set 4 sc_spreads.nd (pd_call k_steps_from hr (by decide) tk (pad_cons (pd_var 0) (pad_cons (pd_var 1) pad_nil))))
    (pssd_cons (psd_setO 5 sc_spreads.nd (po_lst (pad_cons (pd_share (po_lc (own := [("other", 7)]) rfl sc_spreads.nd (pid_range T.n_range (pd_len T.n_len (pd_var 4))) (blkOk_by (own := [("other", 7)]) (N := N_spreads) (sc := defScope s_spreads) (by decide +kernel)) (fun _ _ _ _ _ => (pgd_name 7 sc_spreads.nd)) (fun _ _ _ _ _ => ptsd_nil) (fun _ _ _ _ _ => (pd_if (ptd_cmp (c_eq hr) (pd_var 7) (pd_var 2)) (pd_tup (pad_cons pd_int (pad_cons pd_int pad_nil))) (pd_tup (pad_cons pd_int (pad_cons pd_int pad_nil))))))) pad_nil)))
    (pssd_cons (psd_for hp rfl (pid_range T.n_range (pd_var 3)) (pgd_name 6 sc_spreads.nd)
    (pssd_one (psd_app 5 (pd_call k_next_spread hr (by decide) tk (pad_cons (pd_var 4) (pad_cons (pd_ixO 5 (pd_neg pd_int)) pad_nil))))))
    (pssd_shut 5 (pssd_one (psd_ret (pd_var 5)))))))
abbrev s_steps_at : Stmt := topS 42
abbrev N_steps_at : List Str := ["lottery", "plan", "room", "k"]
theorem sc_steps_at : FnScope N_steps_at ["lottery", "plan", "room", "k"] (defScope s_steps_at) := ⟨rfl, rfl, rfl, by decide +kernel, rfl, by decide +kernel, by decide +kernel⟩
noncomputable def b_steps_at : Sm := (seqS (dropS (callD 2 m_check_choice (consD (varD 0) (consD (varD 1) nilD))))
  (seqS (dropS (callD 2 m_check_room (consD (varD 0) (consD (varD 2) nilD))))
  (seqS (dropS (callD 1 m_check_steps (consD (varD 3) nilD)))
  (retS (opD ixD (callD 4 m_spreads (consD (varD 0) (consD (varD 1) (consD (varD 2) (consD (varD 3) nilD))))) (unD negD (constD (.int 1))))))))
noncomputable def m_steps_at : Fn := fnD 0 false b_steps_at
theorem ok_steps_at (T : Tx K mg cls) (D : Df K mg "steps_at" s_steps_at ["lottery", "plan", "room", "k"]) (k_check_choice : Kept P w K mg base cls "check_choice" ["lottery", "plan"] false m_check_choice 7) (k_check_room : Kept P w K mg base cls "check_room" ["lottery", "room"] false m_check_room 2) (k_check_steps : Kept P w K mg base cls "check_steps" ["k"] false m_check_steps 2) (k_spreads : Kept P w K mg base cls "spreads" ["lottery", "plan", "room", "k"] false m_spreads 5) : Kept P w K mg base cls "steps_at" ["lottery", "plan", "room", "k"] false m_steps_at 8 :=
  fn_ok (body := b_steps_at) D sc_steps_at fun f cdv A outer s H E hr => by
    have tk := takes_of (X := cxOf (L2.CX P w) P w K mg base N_steps_at "steps_at" (defScope s_steps_at) f cdv A outer s H E) (E := E) rfl rfl rfl rfl
    have hp := passes_of (X := cxOf (L2.CX P w) P w K mg base N_steps_at "steps_at" (defScope s_steps_at) f cdv A outer s H E) rfl
    exact (pssd_cons (psd_expr (pd_call k_check_choice hr (by decide) tk (pad_cons (pd_var 0) (pad_cons (pd_var 1) pad_nil))))
    (pssd_cons (psd_expr (pd_call k_check_room hr (by decide) tk (pad_cons (pd_var 0) (pad_cons (pd_var 2) pad_nil))))
    (pssd_cons (psd_expr (pd_call k_check_steps hr (by decide) tk (pad_cons (pd_var 3) pad_nil)))
    (pssd_one (psd_ret (pd_ix (pd_call k_spreads hr (by decide) tk (pad_cons (pd_var 0) (pad_cons (pd_var 1) (pad_cons (pd_var 2) (pad_cons (pd_var 3) pad_nil))))) (pd_neg pd_int)))))))
abbrev s_amount_at : Stmt := topS 43
abbrev N_amount_at : List Str := ["lottery", "plan", "room", "k", "steps", "found", "spread", "place", "target", "amount", "share"]
theorem sc_amount_at : FnScope N_amount_at ["lottery", "plan", "room", "k"] (defScope s_amount_at) := ⟨rfl, rfl, rfl, by decide +kernel, rfl, by decide +kernel, by decide +kernel⟩
noncomputable def b_amount_at : Sm := (seqS (dropS (callD 2 m_check_choice (consD (varD 0) (consD (varD 1) nilD))))
  (seqS (dropS (callD 2 m_check_room (consD (varD 0) (consD (varD 2) nilD))))
  (seqS (dropS (callD 1 m_check_steps (consD (varD 3) nilD)))
  (seqS (setS 4 (callD 2 m_steps_from (consD (varD 0) (consD (varD 1) nilD))))
  (seqS (setS 5 (tupD (consD (constD (.int 0)) (consD (constD (.int 1)) nilD))))
  (seqS (forS (itemsD (slD (callD 4 m_spreads (consD (varD 0) (consD (varD 1) (consD (varD 2) (consD (varD 3) nilD))))) noPart (somePart (varD 3)))) (nameT 6)
  (forS (rangeD (unD lenD (varD 6))) (nameT 7)
  (forS (itemsD (opD ixD (varD 4) (varD 7))) (tupT (consT (nameT 8) (consT (nameT 9) (consT (nameT 10) nilT))))
  (setS 5 (callD 2 m_plus (consD (varD 5) (consD (callD 2 m_times (consD (opD ixD (varD 6) (varD 7)) (consD (callD 2 m_times (consD (tupD (consD (varD 9) (consD (constD (.int 1)) nilD))) (consD (varD 10) nilD))) nilD))) nilD)))))))
  (retS (varD 5))))))))
noncomputable def m_amount_at : Fn := fnD 7 false b_amount_at
theorem ok_amount_at (T : Tx K mg cls) (D : Df K mg "amount_at" s_amount_at ["lottery", "plan", "room", "k"]) (k_check_choice : Kept P w K mg base cls "check_choice" ["lottery", "plan"] false m_check_choice 7) (k_check_room : Kept P w K mg base cls "check_room" ["lottery", "room"] false m_check_room 2) (k_check_steps : Kept P w K mg base cls "check_steps" ["k"] false m_check_steps 2) (k_steps_from : Kept P w K mg base cls "steps_from" ["lottery", "plan"] false m_steps_from 2) (k_spreads : Kept P w K mg base cls "spreads" ["lottery", "plan", "room", "k"] false m_spreads 5) (k_plus : Kept P w K mg base cls "plus" ["one", "other"] false m_plus 3) (k_times : Kept P w K mg base cls "times" ["one", "other"] false m_times 3) : Kept P w K mg base cls "amount_at" ["lottery", "plan", "room", "k"] false m_amount_at 8 :=
  fn_ok (body := b_amount_at) D sc_amount_at fun f cdv A outer s H E hr => by
    have tk := takes_of (X := cxOf (L2.CX P w) P w K mg base N_amount_at "amount_at" (defScope s_amount_at) f cdv A outer s H E) (E := E) rfl rfl rfl rfl
    have hp := passes_of (X := cxOf (L2.CX P w) P w K mg base N_amount_at "amount_at" (defScope s_amount_at) f cdv A outer s H E) rfl
    exact (pssd_cons (psd_expr (pd_call k_check_choice hr (by decide) tk (pad_cons (pd_var 0) (pad_cons (pd_var 1) pad_nil))))
    (pssd_cons (psd_expr (pd_call k_check_room hr (by decide) tk (pad_cons (pd_var 0) (pad_cons (pd_var 2) pad_nil))))
    (pssd_cons (psd_expr (pd_call k_check_steps hr (by decide) tk (pad_cons (pd_var 3) pad_nil)))
    (pssd_cons (psd_set 4 sc_amount_at.nd (pd_call k_steps_from hr (by decide) tk (pad_cons (pd_var 0) (pad_cons (pd_var 1) pad_nil))))
    (pssd_cons (psd_set 5 sc_amount_at.nd (pd_tup (pad_cons pd_int (pad_cons pd_int pad_nil))))
    (pssd_cons (psd_for hp rfl (pid_seq (pd_slice (pd_call k_spreads hr (by decide) tk (pad_cons (pd_var 0) (pad_cons (pd_var 1) (pad_cons (pd_var 2) (pad_cons (pd_var 3) pad_nil))))) po_no (po_so (pd_var 3)))) (pgd_name 6 sc_amount_at.nd)
    (pssd_one (psd_for hp rfl (pid_range T.n_range (pd_len T.n_len (pd_var 6))) (pgd_name 7 sc_amount_at.nd)
    (pssd_one (psd_for hp rfl (pid_seq (pd_ix (pd_var 4) (pd_var 7))) (pgd_tup rfl (pgsd_cons (pgd_name 8 sc_amount_at.nd) (pgsd_cons (pgd_name 9 sc_amount_at.nd) (pgsd_cons (pgd_name 10 sc_amount_at.nd) pgsd_nil))) len3)
    (pssd_one (psd_set 5 sc_amount_at.nd (pd_call k_plus hr (by decide) tk (pad_cons (pd_var 5) (pad_cons (pd_call k_times hr (by decide) tk (pad_cons (pd_ix (pd_var 6) (pd_var 7)) (pad_cons (pd_call k_times hr (by decide) tk (pad_cons (pd_tup (pad_cons (pd_var 9) (pad_cons pd_int pad_nil))) (pad_cons (pd_var 10) pad_nil))) pad_nil))) pad_nil))))))))))
    (pssd_one (psd_ret (pd_var 5)))))))))
abbrev s_check_goals : Stmt := topS 35
abbrev N_check_goals : List Str := ["lottery", "goals", "k", "room"]
theorem sc_check_goals : FnScope N_check_goals ["lottery", "goals"] (defScope s_check_goals) := ⟨rfl, rfl, rfl, by decide +kernel, rfl, by decide +kernel, by decide +kernel⟩
noncomputable def b_check_goals : Sm := (seqS (ifS (orT (notT (truthD (unD (isiD "tuple") (varD 1)))) (truthD (shareO (lcO (itemsD (varD 1)) [3] (nameT 3) (notT (truthD (callD 3 m_is_within (consD (varD 3) (consD (constD (.int 0)) (consD (opD subD (unD lenD (opD ixD (varD 0) (constD (.int 0)))) (constD (.int 1))) nilD)))))) (varD 3)))))
  (raiseS 1)
  nextS)
  (ifS (truthD (shareO (lcO (range2D (constD (.int 1)) (unD lenD (varD 1))) [2] (nameT 2) (boolD (opD (cmpD fun i j => decide (j ≤ i)) (opD ixD (varD 1) (opD subD (varD 2) (constD (.int 1)))) (opD ixD (varD 1) (varD 2)))) (varD 2))))
  (raiseS 1)
  nextS))
noncomputable def m_check_goals : Fn := fnD 2 false b_check_goals
theorem ok_check_goals (T : Tx K mg cls) (D : Df K mg "check_goals" s_check_goals ["lottery", "goals"]) (k_is_within : Kept P w K mg base cls "is_within" ["value", "least", "most"] false m_is_within 1) : Kept P w K mg base cls "check_goals" ["lottery", "goals"] false m_check_goals 2 :=
  fn_ok (body := b_check_goals) D sc_check_goals fun f cdv A outer s H E hr => by
    have tk := takes_of (X := cxOf (L2.CX P w) P w K mg base N_check_goals "check_goals" (defScope s_check_goals) f cdv A outer s H E) (E := E) rfl rfl rfl rfl
    have hp := passes_of (X := cxOf (L2.CX P w) P w K mg base N_check_goals "check_goals" (defScope s_check_goals) f cdv A outer s H E) rfl
    exact (pssd_cons (psd_if (PW.pt (pwd_or (ptd_not (ptd_val (pd_isi kit_tuple T.n_isinstance T.n_tuple PyProof.Rows.boot_tuple (pd_var 1)))) (pwd_or1 (ptd_val (pd_share (po_lc (own := [("room", 3)]) rfl sc_check_goals.nd (pid_seq (pd_var 1)) (blkOk_by (own := [("room", 3)]) (N := N_check_goals) (sc := defScope s_check_goals) (by decide +kernel)) (fun _ _ _ _ _ => (pgd_name 3 sc_check_goals.nd)) (fun _ _ _ _ _ => (ptsd_one (ptd_not (ptd_val (pd_call k_is_within hr (by decide) takes0 (pad_cons (pd_var 3) (pad_cons pd_int (pad_cons (pd_sub (pd_len T.n_len (pd_ix (pd_var 0) pd_int)) pd_int) pad_nil)))))))) (fun _ _ _ _ _ => (pd_var 3))))))))
    (pssd_one (psd_raise T.e_1 rfl tk))
    pssd_nil)
    (pssd_one (psd_if (ptd_val (pd_share (po_lc (own := [("k", 2)]) rfl sc_check_goals.nd (pid_range2 T.n_range pd_int (pd_len T.n_len (pd_var 1))) (blkOk_by (own := [("k", 2)]) (N := N_check_goals) (sc := defScope s_check_goals) (by decide +kernel)) (fun _ _ _ _ _ => (pgd_name 2 sc_check_goals.nd)) (fun _ _ _ _ _ => (ptsd_one (ptd_cmp c_ge (pd_ix (pd_var 1) (pd_sub (pd_var 2) pd_int)) (pd_ix (pd_var 1) (pd_var 2))))) (fun _ _ _ _ _ => (pd_var 2)))))
    (pssd_one (psd_raise T.e_1 rfl tk))
    pssd_nil)))
abbrev s_chances_by : Stmt := topS 38
abbrev N_chances_by : List Str := ["lottery", "plan", "goals"]
theorem sc_chances_by : FnScope N_chances_by ["lottery", "plan", "goals"] (defScope s_chances_by) := ⟨rfl, rfl, rfl, by decide +kernel, rfl, by decide +kernel, by decide +kernel⟩
noncomputable def b_chances_by : Sm := (seqS (dropS (callD 2 m_check_choice (consD (varD 0) (consD (varD 1) nilD))))
  (seqS (dropS (callD 2 m_check_goals (consD (varD 0) (consD (varD 2) nilD))))
  (retS badE)))
noncomputable def m_chances_by : Fn := fnD 0 false b_chances_by
theorem ok_chances_by (T : Tx K mg cls) (D : Df K mg "chances_by" s_chances_by ["lottery", "plan", "goals"]) (k_check_choice : Kept P w K mg base cls "check_choice" ["lottery", "plan"] false m_check_choice 7) (k_check_goals : Kept P w K mg base cls "check_goals" ["lottery", "goals"] false m_check_goals 2) : Kept P w K mg base cls "chances_by" ["lottery", "plan", "goals"] false m_chances_by 8 :=
  fn_ok (body := b_chances_by) D sc_chances_by fun f cdv A outer s H E hr => by
    have tk := takes_of (X := cxOf (L2.CX P w) P w K mg base N_chances_by "chances_by" (defScope s_chances_by) f cdv A outer s H E) (E := E) rfl rfl rfl rfl
    have hp := passes_of (X := cxOf (L2.CX P w) P w K mg base N_chances_by "chances_by" (defScope s_chances_by) f cdv A outer s H E) rfl
    exact (pssd_cons (psd_expr (pd_call k_check_choice hr (by decide) tk (pad_cons (pd_var 0) (pad_cons (pd_var 1) pad_nil))))
    (pssd_cons (psd_expr (pd_call k_check_goals hr (by decide) tk (pad_cons (pd_var 0) (pad_cons (pd_var 2) pad_nil))))
    (pssd_one (psd_ret (pd_never _)))))
abbrev s_law_error : Stmt := topS 65
abbrev N_law_error : List Str := ["name", "lottery", "plan", "one", "two"]
theorem sc_law_error : FnScope N_law_error ["name", "lottery", "plan", "one", "two"] (defScope s_law_error) := ⟨rfl, rfl, rfl, by decide +kernel, rfl, by decide +kernel, by decide +kernel⟩
noncomputable def b_law_error : Sm := (seqS (tryM [(1, (retS (constD (.str (PySem.Str.ofString "argument"))))), (0, (retS (constD (.str (PySem.Str.ofString "program")))))] 2 (ifS (boolD (opD eqD (varD 0) (constD (.str (PySem.Str.ofString "choice")))))
  (dropS (callD 2 m_is_choice (consD (varD 1) (consD (varD 2) nilD))))
  (ifS (boolD (opD eqD (varD 0) (constD (.str (PySem.Str.ofString "first")))))
  (dropS (callD 4 m_first_ways_chance (consD (varD 1) (consD (varD 2) (consD (varD 3) (consD (varD 4) nilD))))))
  (ifS (boolD (opD eqD (varD 0) (constD (.str (PySem.Str.ofString "steps")))))
  (dropS (callD 4 m_steps_at (consD (varD 1) (consD (varD 2) (consD (varD 3) (consD (varD 4) nilD))))))
  (ifS (boolD (opD eqD (varD 0) (constD (.str (PySem.Str.ofString "amount")))))
  (dropS (callD 4 m_amount_at (consD (varD 1) (consD (varD 2) (consD (varD 3) (consD (varD 4) nilD))))))
  (dropS (callD 3 m_chances_by (consD (varD 1) (consD (varD 2) (consD (varD 3) nilD))))))))))
  (retS (constD .none)))
noncomputable def m_law_error : Fn := fnD 0 false b_law_error
theorem ok_law_error (T : Tx K mg cls) (D : Df K mg "_law_error" s_law_error ["name", "lottery", "plan", "one", "two"]) (k_is_choice : Kept P w K mg base cls "is_choice" ["lottery", "plan"] false m_is_choice 7) (k_first_ways_chance : Kept P w K mg base cls "first_ways_chance" ["lottery", "plan", "room", "places"] false m_first_ways_chance 8) (k_steps_at : Kept P w K mg base cls "steps_at" ["lottery", "plan", "room", "k"] false m_steps_at 8) (k_amount_at : Kept P w K mg base cls "amount_at" ["lottery", "plan", "room", "k"] false m_amount_at 8) (k_chances_by : Kept P w K mg base cls "chances_by" ["lottery", "plan", "goals"] false m_chances_by 8) : Kept P w K mg base cls "_law_error" ["name", "lottery", "plan", "one", "two"] false m_law_error 9 :=
  fn_ok (body := b_law_error) D sc_law_error fun f cdv A outer s H E hr => by
    have tk := takes_of (X := cxOf (L2.CX P w) P w K mg base N_law_error "_law_error" (defScope s_law_error) f cdv A outer s H E) (E := E) rfl rfl rfl rfl
    have hp := passes_of (X := cxOf (L2.CX P w) P w K mg base N_law_error "_law_error" (defScope s_law_error) f cdv A outer s H E) rfl
    exact (pssd_cons (psd_tryM rfl rfl tk (fun W' pn xe tk' hp' => (pssd_one (psd_if (ptd_cmp (c_eq hr) (pd_var 0) pd_str)
    (pssd_one (psd_expr (pd_call k_is_choice hr (by decide) tk' (pad_cons (pd_var 1) (pad_cons (pd_var 2) pad_nil)))))
    (pssd_one (psd_if (ptd_cmp (c_eq hr) (pd_var 0) pd_str)
    (pssd_one (psd_expr (pd_call k_first_ways_chance hr (by decide) tk' (pad_cons (pd_var 1) (pad_cons (pd_var 2) (pad_cons (pd_var 3) (pad_cons (pd_var 4) pad_nil)))))))
    (pssd_one (psd_if (ptd_cmp (c_eq hr) (pd_var 0) pd_str)
    (pssd_one (psd_expr (pd_call k_steps_at hr (by decide) tk' (pad_cons (pd_var 1) (pad_cons (pd_var 2) (pad_cons (pd_var 3) (pad_cons (pd_var 4) pad_nil)))))))
    (pssd_one (psd_if (ptd_cmp (c_eq hr) (pd_var 0) pd_str)
    (pssd_one (psd_expr (pd_call k_amount_at hr (by decide) tk' (pad_cons (pd_var 1) (pad_cons (pd_var 2) (pad_cons (pd_var 3) (pad_cons (pd_var 4) pad_nil)))))))
    (pssd_one (psd_expr (pd_call k_chances_by hr (by decide) tk' (pad_cons (pd_var 1) (pad_cons (pd_var 2) (pad_cons (pd_var 3) pad_nil))))))))))))))) (hdsM_cons T.x_1 T.g_1 (fun _ _ _ => (pssd_one (psd_ret pd_str))) (hdsM_cons T.x_0 T.g_0 (fun _ _ _ => (pssd_one (psd_ret pd_str))) hdsM_nil)))
    (pssd_one (psd_ret pd_non)))
abbrev s_law_steps : Stmt := topS 59
abbrev N_law_steps : List Str := ["lottery", "plan", "found", "room", "places", "k"]
theorem sc_law_steps : FnScope N_law_steps ["lottery", "plan"] (defScope s_law_steps) := ⟨rfl, rfl, rfl, by decide +kernel, rfl, by decide +kernel, by decide +kernel⟩
noncomputable def b_law_steps : Sm := (seqS (setOS 2 (lstO nilD))
  (seqS (forS (rangeD (unD lenD (varD 1))) (nameT 3)
  (seqS (setOS 4 (lcO (itemsD (callD 2 m_law_places (consD (varD 0) (consD (varD 3) nilD)))) [5] (nameT 5) (orT (boolD (unD isNoneD (opD ixD (varD 1) (varD 3)))) (boolD (opD eqD (opD ixD (varD 1) (varD 3)) (varD 5)))) (varD 5))) (shutS 4 (appS 2 (shareO (lcO (itemsD (varD 4)) [5] (nameT 5) yesT (slD (opD ixD (opD ixD (varD 0) (constD (.int 1))) (varD 5)) (somePart (constD (.int 1))) noPart)))))))
  (shutS 2 (retS (varD 2)))))
noncomputable def m_law_steps : Fn := fnD 4 false b_law_steps
theorem ok_law_steps (T : Tx K mg cls) (D : Df K mg "_law_steps" s_law_steps ["lottery", "plan"]) (k_law_places : Kept P w K mg base cls "_law_places" ["lottery", "room"] false m_law_places 1) : Kept P w K mg base cls "_law_steps" ["lottery", "plan"] false m_law_steps 2 :=
  fn_ok (body := b_law_steps) D sc_law_steps fun f cdv A outer s H E hr => by
    have tk := takes_of (X := cxOf (L2.CX P w) P w K mg base N_law_steps "_law_steps" (defScope s_law_steps) f cdv A outer s H E) (E := E) rfl rfl rfl rfl
    have hp := passes_of (X := cxOf (L2.CX P w) P w K mg base N_law_steps "_law_steps" (defScope s_law_steps) f cdv A outer s H E) rfl
    exact (pssd_cons (psd_setO 2 sc_law_steps.nd (po_lst pad_nil))
    (pssd_cons (psd_for hp rfl (pid_range T.n_range (pd_len T.n_len (pd_var 1))) (pgd_name 3 sc_law_steps.nd)
    (pssd_setLc 4 (psd_setLcO 4 (own := [("k", 5)]) rfl sc_law_steps.nd (sw_true rfl rfl rfl (by decide +kernel)) (pid_seq (pd_call k_law_places hr (by decide) tk (pad_cons (pd_var 0) (pad_cons (pd_var 3) pad_nil)))) (blkOk_by (own := [("k", 5)]) (N := N_law_steps) (sc := defScope s_law_steps) (by decide +kernel)) (fun _ _ _ _ _ => (pgd_name 5 sc_law_steps.nd)) (fun _ _ _ _ _ => (ptsd_one (PW.pt (pwd_or (ptd_isN (pd_ix (pd_var 1) (pd_var 3))) (pwd_or1 (ptd_cmp (c_eq hr) (pd_ix (pd_var 1) (pd_var 3)) (pd_var 5))))))) (fun _ _ _ _ _ => (pd_var 5))) (pssd_one (psd_app 2 (pd_share (po_lc (own := [("k", 5)]) rfl sc_law_steps.nd (pid_seq (pd_var 4)) (blkOk_by (own := [("k", 5)]) (N := N_law_steps) (sc := defScope s_law_steps) (by decide +kernel)) (fun _ _ _ _ _ => (pgd_name 5 sc_law_steps.nd)) (fun _ _ _ _ _ => ptsd_nil) (fun _ _ _ _ _ => (pd_slice (pd_ix (pd_ix (pd_var 0) pd_int) (pd_var 5)) (po_so pd_int) po_no))))))))
    (pssd_shut 2 (pssd_one (psd_ret (pd_var 2))))))
abbrev s_law_is_plan : Stmt := topS 64
abbrev N_law_is_plan : List Str := ["lottery", "plan", "room"]
theorem sc_law_is_plan : FnScope N_law_is_plan ["lottery", "plan"] (defScope s_law_is_plan) := ⟨rfl, rfl, rfl, by decide +kernel, rfl, by decide +kernel, by decide +kernel⟩
noncomputable def b_law_is_plan : Sm := (seqS (forS (rangeD (unD lenD (opD ixD (varD 0) (constD (.int 0))))) (nameT 2)
  (seqS (ifS (andT (boolD (opD eqD (opD ixD (opD ixD (varD 0) (constD (.int 0))) (varD 2)) (constD (.int 2)))) (boolD (unD notNoneD (opD ixD (varD 1) (varD 2)))))
  (retS (constD (.bool false)))
  nextS)
  (ifS (andT (boolD (opD eqD (opD ixD (opD ixD (varD 0) (constD (.int 0))) (varD 2)) (constD (.int 0)))) (orT (boolD (unD isNoneD (opD ixD (varD 1) (varD 2)))) (boolD (opD neD (opD ixD (opD ixD (opD ixD (varD 0) (constD (.int 1))) (opD ixD (varD 1) (varD 2))) (constD (.int 0))) (varD 2)))))
  (retS (constD (.bool false)))
  nextS)))
  (retS (constD (.bool true))))
noncomputable def m_law_is_plan : Fn := fnD 1 false b_law_is_plan
theorem ok_law_is_plan (T : Tx K mg cls) (D : Df K mg "_law_is_plan" s_law_is_plan ["lottery", "plan"])  : Kept P w K mg base cls "_law_is_plan" ["lottery", "plan"] false m_law_is_plan 1 :=
  fn_ok (body := b_law_is_plan) D sc_law_is_plan fun f cdv A outer s H E hr => by
    have tk := takes_of (X := cxOf (L2.CX P w) P w K mg base N_law_is_plan "_law_is_plan" (defScope s_law_is_plan) f cdv A outer s H E) (E := E) rfl rfl rfl rfl
    have hp := passes_of (X := cxOf (L2.CX P w) P w K mg base N_law_is_plan "_law_is_plan" (defScope s_law_is_plan) f cdv A outer s H E) rfl
    exact (pssd_cons (psd_for hp rfl (pid_range T.n_range (pd_len T.n_len (pd_ix (pd_var 0) pd_int))) (pgd_name 2 sc_law_is_plan.nd)
    (pssd_cons (psd_if (PW.pt (pwd_and (ptd_cmp (c_eq hr) (pd_ix (pd_ix (pd_var 0) pd_int) (pd_var 2)) pd_int) (pwd_and1 (ptd_notN (pd_ix (pd_var 1) (pd_var 2))))))
    (pssd_one (psd_ret pd_bl))
    pssd_nil)
    (pssd_one (psd_if (PW.pt (pwd_and (ptd_cmp (c_eq hr) (pd_ix (pd_ix (pd_var 0) pd_int) (pd_var 2)) pd_int) (pwd_and1 (PW.pt (pwd_or (ptd_isN (pd_ix (pd_var 1) (pd_var 2))) (pwd_or1 (ptd_cmp (c_ne hr) (pd_ix (pd_ix (pd_ix (pd_var 0) pd_int) (pd_ix (pd_var 1) (pd_var 2))) pd_int) (pd_var 2))))))))
    (pssd_one (psd_ret pd_bl))
    pssd_nil))))
    (pssd_one (psd_ret pd_bl)))
abbrev s_law_first : Stmt := topS 67
abbrev N_law_first : List Str := ["lottery", "plan", "room", "places", "found", "k"]
theorem sc_law_first : FnScope N_law_first ["lottery", "plan", "room", "places"] (defScope s_law_first) := ⟨rfl, rfl, rfl, by decide +kernel, rfl, by decide +kernel, by decide +kernel⟩
noncomputable def b_law_first : Sm := (seqS (setS 4 (tupD (consD (constD (.int 1)) (consD (constD (.int 1)) nilD))))
  (seqS (forS (itemsD (varD 3)) (nameT 5)
  (seqS (ifS (orT (boolD (opD neD (opD ixD (opD ixD (opD ixD (varD 0) (constD (.int 1))) (varD 5)) (constD (.int 0))) (varD 2))) (andT (boolD (unD notNoneD (opD ixD (varD 1) (varD 2)))) (boolD (opD neD (opD ixD (varD 1) (varD 2)) (varD 5)))))
  (retS (tupD (consD (constD (.int 0)) (consD (constD (.int 1)) nilD))))
  nextS)
  (seqS (setS 4 (callD 2 m_law_times (consD (varD 4) (consD (opD ixD (opD ixD (opD ixD (varD 0) (constD (.int 1))) (varD 5)) (constD (.int 3))) nilD))))
  (setS 2 (opD ixD (opD ixD (opD ixD (varD 0) (constD (.int 1))) (varD 5)) (constD (.int 1)))))))
  (retS (varD 4))))
noncomputable def m_law_first : Fn := fnD 2 false b_law_first
theorem ok_law_first (T : Tx K mg cls) (D : Df K mg "_law_first" s_law_first ["lottery", "plan", "room", "places"]) (k_law_times : Kept P w K mg base cls "_law_times" ["one", "other"] false m_law_times 3) : Kept P w K mg base cls "_law_first" ["lottery", "plan", "room", "places"] false m_law_first 4 :=
  fn_ok (body := b_law_first) D sc_law_first fun f cdv A outer s H E hr => by
    have tk := takes_of (X := cxOf (L2.CX P w) P w K mg base N_law_first "_law_first" (defScope s_law_first) f cdv A outer s H E) (E := E) rfl rfl rfl rfl
    have hp := passes_of (X := cxOf (L2.CX P w) P w K mg base N_law_first "_law_first" (defScope s_law_first) f cdv A outer s H E) rfl
    exact (pssd_cons (psd_set 4 sc_law_first.nd (pd_tup (pad_cons pd_int (pad_cons pd_int pad_nil))))
    (pssd_cons (psd_for hp rfl (pid_seq (pd_var 3)) (pgd_name 5 sc_law_first.nd)
    (pssd_cons (psd_if (PW.pt (pwd_or (ptd_cmp (c_ne hr) (pd_ix (pd_ix (pd_ix (pd_var 0) pd_int) (pd_var 5)) pd_int) (pd_var 2)) (pwd_or1 (PW.pt (pwd_and (ptd_notN (pd_ix (pd_var 1) (pd_var 2))) (pwd_and1 (ptd_cmp (c_ne hr) (pd_ix (pd_var 1) (pd_var 2)) (pd_var 5))))))))
    (pssd_one (psd_ret (pd_tup (pad_cons pd_int (pad_cons pd_int pad_nil)))))
    pssd_nil)
    (pssd_cons (psd_set 4 sc_law_first.nd (pd_call k_law_times hr (by decide) tk (pad_cons (pd_var 4) (pad_cons (pd_ix (pd_ix (pd_ix (pd_var 0) pd_int) (pd_var 5)) pd_int) pad_nil))))
    (pssd_one (psd_set 2 sc_law_first.nd (pd_ix (pd_ix (pd_ix (pd_var 0) pd_int) (pd_var 5)) pd_int))))))
    (pssd_one (psd_ret (pd_var 4)))))
abbrev s_law : Stmt := topS 69
abbrev N_law : List Str := ["script", "draws", "turn", "bad", "name", "odd", "number", "lottery", "plan", "n", "other", "room", "places", "k", "strange", "here", "whole"]
theorem sc_law : FnScope N_law ["script"] (defScope s_law) := ⟨rfl, rfl, rfl, by decide +kernel, rfl, by decide +kernel, by decide +kernel⟩
noncomputable def b_law : Sm := (seqS (forS (rangeD (constD (.int 3))) (nameT 2)
  (seqS (setS 7 (callG 2 1 m_law_lottery (consD (constD (.int 8)) nilD)))
  (seqS (setS 8 (callG 2 1 m_law_plan (consD (varD 7) nilD)))
  (seqS (setS 9 (unD lenD (opD ixD (varD 7) (constD (.int 0)))))
  (seqS (ifS (orT (notT (truthD (callD 2 m_law_equal (consD (callD 1 m_is_lottery (consD (varD 7) nilD)) (consD (constD (.bool true)) nilD))))) (notT (truthD (callD 2 m_law_equal (consD (callD 2 m_is_choice (consD (varD 7) (consD (varD 8) nilD))) (consD (constD (.bool true)) nilD))))))
  (retS (constD (.bool false)))
  nextS)
  (seqS (setS 10 (unD tupleD (shareO (lcO (itemsD (varD 8)) [13] (nameT 13) yesT (opD ixD (shareO (lstO (consD (varD 13) (consD (constD .none) (consD (opD modD (callG 1 1 m_law_draw nilD) (unD lenD (opD ixD (varD 7) (constD (.int 1))))) nilD))))) (opD modD (callG 1 1 m_law_draw nilD) (constD (.int 3))))))))
  (seqS (ifS (notT (truthD (callD 2 m_law_equal (consD (callD 2 m_is_choice (consD (varD 7) (consD (varD 10) nilD))) (consD (callD 2 m_law_is_plan (consD (varD 7) (consD (varD 10) nilD))) nilD)))))
  (retS (constD (.bool false)))
  nextS)
  (seqS (setS 11 (opD modD (callG 1 1 m_law_draw nilD) (varD 9)))
  (seqS (setS 12 (callG 4 1 m_law_walk (consD (varD 7) (consD (varD 8) (consD (varD 11) nilD)))))
  (seqS (ifS (notT (truthD (callD 2 m_law_equal (consD (callD 4 m_first_ways_chance (consD (varD 7) (consD (varD 8) (consD (varD 11) (consD (unD listD (varD 12)) nilD))))) (consD (callD 4 m_law_first (consD (varD 7) (consD (varD 8) (consD (varD 11) (consD (varD 12) nilD))))) nilD)))))
  (retS (constD (.bool false)))
  nextS)
  (seqS (setS 13 (opD modD (callG 1 1 m_law_draw nilD) (opD ixD (shareO (lstO (consD (constD (.int 4)) (consD (constD (.int 41)) nilD)))) (opD modD (callG 1 1 m_law_draw nilD) (constD (.int 2))))))
  (seqS (asgS (callD 3 m_law_spread (consD (callD 2 m_law_steps (consD (varD 7) (consD (varD 8) nilD))) (consD (varD 11) (consD (varD 13) nilD)))) (tupT (consT (nameT 15) (consT (nameT 16) nilT))))
  (seqS (ifS (orT (notT (truthD (callD 2 m_law_equal (consD (callD 4 m_steps_at (consD (varD 7) (consD (varD 8) (consD (varD 11) (consD (varD 13) nilD))))) (consD (varD 15) nilD))))) (notT (truthD (callD 2 m_law_equal (consD (callD 4 m_amount_at (consD (varD 7) (consD (varD 8) (consD (varD 11) (consD (varD 13) nilD))))) (consD (varD 16) nilD))))))
  (retS (constD (.bool false)))
  nextS)
  (seqS (setS 14 (opD ixD (shareO (lstO (consD (constD .none) (consD (opD addD (varD 8) (tupD (consD (constD (.int 0)) nilD))) (consD (unD listD (varD 8)) (consD (opD mulD (tupD (consD (unD lenD (opD ixD (varD 7) (constD (.int 1)))) nilD)) (varD 9)) (consD (opD mulD (tupD (consD (constD (.bool true)) nilD)) (varD 9)) (consD (opD mulD (tupD (consD (unD negD (constD (.int 1))) nilD)) (varD 9)) nilD)))))))) (opD modD (callG 1 1 m_law_draw nilD) (constD (.int 6)))))
  (seqS (ifS (notT (truthD (callD 2 m_law_equal (consD (callD 2 m_is_choice (consD (varD 7) (consD (varD 14) nilD))) (consD (constD (.bool false)) nilD)))))
  (retS (constD (.bool false)))
  nextS)
  (forS (itemsD (shareO (lstO (consD (constD (.str (PySem.Str.ofString "first"))) (consD (constD (.str (PySem.Str.ofString "steps"))) (consD (constD (.str (PySem.Str.ofString "amount"))) (consD (constD (.str (PySem.Str.ofString "chances"))) nilD))))))) (nameT 4)
  (ifS (boolD (opD neD (callD 5 m_law_error (consD (varD 4) (consD (varD 7) (consD (varD 14) (consD (constD (.int 0)) (consD (constD (.int 0)) nilD)))))) (constD (.str (PySem.Str.ofString "argument")))))
  (retS (constD (.bool false)))
  nextS)))))))))))))))))
  (seqS (setS 3 (callG 2 1 m_law_spoilt (consD (varD 7) nilD)))
  (seqS (ifS (notT (truthD (callD 2 m_law_equal (consD (callD 1 m_is_lottery (consD (varD 3) nilD)) (consD (constD (.bool false)) nilD)))))
  (retS (constD (.bool false)))
  nextS)
  (seqS (forS (itemsD (shareO (lstO (consD (constD (.str (PySem.Str.ofString "choice"))) (consD (constD (.str (PySem.Str.ofString "first"))) (consD (constD (.str (PySem.Str.ofString "steps"))) (consD (constD (.str (PySem.Str.ofString "amount"))) (consD (constD (.str (PySem.Str.ofString "chances"))) nilD)))))))) (nameT 4)
  (ifS (boolD (opD neD (callD 5 m_law_error (consD (varD 4) (consD (varD 3) (consD (varD 8) (consD (constD (.int 0)) (consD (constD (.int 0)) nilD)))))) (constD (.str (PySem.Str.ofString "program")))))
  (retS (constD (.bool false)))
  nextS))
  (seqS (setS 5 (opD ixD (shareO (lstO (consD (varD 9) (consD (unD negD (constD (.int 1))) (consD (constD (.bool true)) (consD (constD .none) nilD)))))) (opD modD (callG 1 1 m_law_draw nilD) (constD (.int 4)))))
  (seqS (forS (itemsD (shareO (lstO (consD (constD (.str (PySem.Str.ofString "first"))) (consD (constD (.str (PySem.Str.ofString "steps"))) (consD (constD (.str (PySem.Str.ofString "amount"))) (consD (constD (.str (PySem.Str.ofString "chances"))) nilD))))))) (nameT 4)
  (ifS (boolD (opD neD (callD 5 m_law_error (consD (varD 4) (consD (varD 7) (consD (varD 8) (consD (varD 5) (consD (constD (.int 0)) nilD)))))) (constD (.str (PySem.Str.ofString "argument")))))
  (retS (constD (.bool false)))
  nextS))
  (seqS (ifS (boolD (opD neD (callD 5 m_law_error (consD (constD (.str (PySem.Str.ofString "first"))) (consD (varD 7) (consD (varD 8) (consD (constD (.int 0)) (consD (opD ixD (shareO (lstO (consD (constD .none) (consD (tupD (consD (constD (.int 0)) nilD)) (consD (shareO (lstO (consD (unD lenD (opD ixD (varD 7) (constD (.int 1)))) nilD))) (consD (shareO (lstO (consD (constD (.bool true)) nilD))) (consD (opD mulD (shareO (lstO (consD (constD (.int 0)) nilD))) (constD (.int 61))) nilD))))))) (opD modD (callG 1 1 m_law_draw nilD) (constD (.int 5)))) nilD)))))) (constD (.str (PySem.Str.ofString "argument")))))
  (retS (constD (.bool false)))
  nextS)
  (seqS (setS 6 (opD ixD (shareO (lstO (consD (unD negD (constD (.int 1))) (consD (constD (.int 41)) (consD (constD (.bool true)) (consD (constD .none) nilD)))))) (opD modD (callG 1 1 m_law_draw nilD) (constD (.int 4)))))
  (seqS (ifS (orT (boolD (opD neD (callD 5 m_law_error (consD (constD (.str (PySem.Str.ofString "steps"))) (consD (varD 7) (consD (varD 8) (consD (constD (.int 0)) (consD (varD 6) nilD)))))) (constD (.str (PySem.Str.ofString "argument"))))) (boolD (opD neD (callD 5 m_law_error (consD (constD (.str (PySem.Str.ofString "amount"))) (consD (varD 7) (consD (varD 8) (consD (constD (.int 0)) (consD (varD 6) nilD)))))) (constD (.str (PySem.Str.ofString "argument"))))))
  (retS (constD (.bool false)))
  nextS)
  (retS (opD eqD (callD 5 m_law_error (consD (constD (.str (PySem.Str.ofString "chances"))) (consD (varD 7) (consD (varD 8) (consD (opD ixD (shareO (lstO (consD (constD .none) (consD (shareO (lstO (consD (constD (.int 0)) nilD))) (consD (tupD (consD (varD 9) nilD)) (consD (tupD (consD (constD (.int 0)) (consD (constD (.int 0)) nilD))) (consD (tupD (consD (constD (.bool true)) nilD)) nilD))))))) (opD modD (callG 1 1 m_law_draw nilD) (constD (.int 5)))) (consD (constD .none) nilD)))))) (constD (.str (PySem.Str.ofString "argument"))))))))))))))
theorem ok_law {f : Addr} {fd : FuncData} (T : Tx K mg cls) (F : Fun K "law" "law" s_law f fd) (kn : ∃ (f : Addr) (fd : FuncData), mg "_law_numbers" = some (.ref f) ∧ PySem.W.keepIn K (.ref f) = true ∧ L2.Binds K fd ["script"] [] ∧ FnOk P w K mg base (L2.CX P w) 2 f fd ["script"] (spNum K))
    (k_law_lottery : Kept P w K mg base cls "_law_lottery" ["draws", "most"] true m_law_lottery 3)
    (k_law_plan : Kept P w K mg base cls "_law_plan" ["draws", "lottery"] true m_law_plan 3)
    (k_law_equal : Kept P w K mg base cls "_law_equal" ["actual", "due"] false m_law_equal 40)
    (k_is_lottery : Kept P w K mg base cls "is_lottery" ["value"] false m_is_lottery 5)
    (k_is_choice : Kept P w K mg base cls "is_choice" ["lottery", "plan"] false m_is_choice 7)
    (k_law_draw : Kept P w K mg base cls "_law_draw" ["draws"] true m_law_draw 2)
    (k_law_is_plan : Kept P w K mg base cls "_law_is_plan" ["lottery", "plan"] false m_law_is_plan 1)
    (k_law_walk : Kept P w K mg base cls "_law_walk" ["draws", "lottery", "plan", "room"] true m_law_walk 3)
    (k_first_ways_chance : Kept P w K mg base cls "first_ways_chance" ["lottery", "plan", "room", "places"] false m_first_ways_chance 8)
    (k_law_first : Kept P w K mg base cls "_law_first" ["lottery", "plan", "room", "places"] false m_law_first 4)
    (k_law_spread : Kept P w K mg base cls "_law_spread" ["steps", "room", "k"] false m_law_spread 4)
    (k_law_steps : Kept P w K mg base cls "_law_steps" ["lottery", "plan"] false m_law_steps 2)
    (k_steps_at : Kept P w K mg base cls "steps_at" ["lottery", "plan", "room", "k"] false m_steps_at 8)
    (k_amount_at : Kept P w K mg base cls "amount_at" ["lottery", "plan", "room", "k"] false m_amount_at 8)
    (k_law_error : Kept P w K mg base cls "_law_error" ["name", "lottery", "plan", "one", "two"] false m_law_error 9)
    (k_law_spoilt : Kept P w K mg base cls "_law_spoilt" ["draws", "lottery"] true m_law_spoilt 3)
    (hm : ∀ ms : List Int, Small ms → ∃ g', b_law (.no :: .dr :: List.replicate 15 .no) (some (ms, 0)) = .rt (.bool true) g') : FnOk P w K mg base (L2.CX P w) 41 f fd ["script"] (spLaw K) :=
  law_ok (body := b_law) F sc_law (fun cdv A outer s H E hr => by
    have tk := takes_of (X := cxOf (L2.CX P w) P w K mg base N_law "law" (defScope s_law) f cdv A outer s H E) (E := E) rfl rfl rfl rfl
    have hp := passes_of (X := cxOf (L2.CX P w) P w K mg base N_law "law" (defScope s_law) f cdv A outer s H E) rfl
    obtain ⟨fn, fdn, hmn, hkn, hbn, Fn⟩ := kn
    exact (pss_cons (ps_set (i := 1) sc_law.nd rfl (by first | exact Or.inl rfl | exact Or.inr rfl) (pe_lst (pa_cons (pe_callS Fn (hr.mono (by decide)) (by rfl) hmn hkn hbn (fun σ => passAt tk σ) (pa_cons (pv 0) pa_nil)) (pa_cons pe_int pa_nil))))
      (pssd_cons (psd_for hp rfl (pid_range T.n_range pd_int) (pgd_name 2 sc_law.nd)
    (pssd_cons (psd_set 7 sc_law.nd (pd_callG 1 k_law_lottery hr (by decide) tk (pad_cons pd_int pad_nil)))
    (pssd_cons (psd_set 8 sc_law.nd (pd_callG 1 k_law_plan hr (by decide) tk (pad_cons (pd_var 7) pad_nil)))
    (pssd_cons (psd_set 9 sc_law.nd (pd_len T.n_len (pd_ix (pd_var 7) pd_int)))
    (pssd_cons (psd_if (PW.pt (pwd_or (ptd_not (ptd_val (pd_call k_law_equal hr (by decide) tk (pad_cons (pd_call k_is_lottery hr (by decide) tk (pad_cons (pd_var 7) pad_nil)) (pad_cons pd_bl pad_nil))))) (pwd_or1 (ptd_not (ptd_val (pd_call k_law_equal hr (by decide) tk (pad_cons (pd_call k_is_choice hr (by decide) tk (pad_cons (pd_var 7) (pad_cons (pd_var 8) pad_nil))) (pad_cons pd_bl pad_nil))))))))
    (pssd_one (psd_ret pd_bl))
    pssd_nil)
    (pssd_cons (psd_set 10 sc_law.nd (pd_tuple T.n_tuple (pd_share (po_lc (own := [("k", 13)]) rfl sc_law.nd (pid_seq (pd_var 8)) (blkOk_by (own := [("k", 13)]) (N := N_law) (sc := defScope s_law) (by decide +kernel)) (fun _ _ _ _ _ => (pgd_name 13 sc_law.nd)) (fun _ _ _ _ _ => ptsd_nil) (fun _ _ _ _ _ => (pd_ix (pd_share (po_lst (pad_cons (pd_var 13) (pad_cons pd_non (pad_cons (pd_mod (pd_callG 1 k_law_draw hr (by decide) takes0 pad_nil) (pd_len T.n_len (pd_ix (pd_var 7) pd_int))) pad_nil))))) (pd_mod (pd_callG 1 k_law_draw hr (by decide) takes0 pad_nil) pd_int)))))))
    (pssd_cons (psd_if (ptd_not (ptd_val (pd_call k_law_equal hr (by decide) tk (pad_cons (pd_call k_is_choice hr (by decide) tk (pad_cons (pd_var 7) (pad_cons (pd_var 10) pad_nil))) (pad_cons (pd_call k_law_is_plan hr (by decide) tk (pad_cons (pd_var 7) (pad_cons (pd_var 10) pad_nil))) pad_nil)))))
    (pssd_one (psd_ret pd_bl))
    pssd_nil)
    (pssd_cons (psd_set 11 sc_law.nd (pd_mod (pd_callG 1 k_law_draw hr (by decide) tk pad_nil) (pd_var 9)))
    (pssd_cons (psd_set 12 sc_law.nd (pd_callG 1 k_law_walk hr (by decide) tk (pad_cons (pd_var 7) (pad_cons (pd_var 8) (pad_cons (pd_var 11) pad_nil)))))
    (pssd_cons (psd_if (ptd_not (ptd_val (pd_call k_law_equal hr (by decide) tk (pad_cons (pd_call k_first_ways_chance hr (by decide) tk (pad_cons (pd_var 7) (pad_cons (pd_var 8) (pad_cons (pd_var 11) (pad_cons (pd_list T.n_list (pd_var 12)) pad_nil))))) (pad_cons (pd_call k_law_first hr (by decide) tk (pad_cons (pd_var 7) (pad_cons (pd_var 8) (pad_cons (pd_var 11) (pad_cons (pd_var 12) pad_nil))))) pad_nil)))))
    (pssd_one (psd_ret pd_bl))
    pssd_nil)
    (pssd_cons (psd_set 13 sc_law.nd (pd_mod (pd_callG 1 k_law_draw hr (by decide) tk pad_nil) (pd_ix (pd_share (po_lst (pad_cons pd_int (pad_cons pd_int pad_nil)))) (pd_mod (pd_callG 1 k_law_draw hr (by decide) tk pad_nil) pd_int))))
    (pssd_cons (psd_asg (pd_call k_law_spread hr (by decide) tk (pad_cons (pd_call k_law_steps hr (by decide) tk (pad_cons (pd_var 7) (pad_cons (pd_var 8) pad_nil))) (pad_cons (pd_var 11) (pad_cons (pd_var 13) pad_nil)))) (pgd_tup rfl (pgsd_cons (pgd_name 15 sc_law.nd) (pgsd_cons (pgd_name 16 sc_law.nd) pgsd_nil)) len2))
    (pssd_cons (psd_if (PW.pt (pwd_or (ptd_not (ptd_val (pd_call k_law_equal hr (by decide) tk (pad_cons (pd_call k_steps_at hr (by decide) tk (pad_cons (pd_var 7) (pad_cons (pd_var 8) (pad_cons (pd_var 11) (pad_cons (pd_var 13) pad_nil))))) (pad_cons (pd_var 15) pad_nil))))) (pwd_or1 (ptd_not (ptd_val (pd_call k_law_equal hr (by decide) tk (pad_cons (pd_call k_amount_at hr (by decide) tk (pad_cons (pd_var 7) (pad_cons (pd_var 8) (pad_cons (pd_var 11) (pad_cons (pd_var 13) pad_nil))))) (pad_cons (pd_var 16) pad_nil))))))))
    (pssd_one (psd_ret pd_bl))
    pssd_nil)
    (pssd_cons (psd_set 14 sc_law.nd (pd_ix (pd_share (po_lst (pad_cons pd_non (pad_cons (pd_add (pd_var 8) (pd_tup (pad_cons pd_int pad_nil))) (pad_cons (pd_list T.n_list (pd_var 8)) (pad_cons (pd_mul (pd_tup (pad_cons (pd_len T.n_len (pd_ix (pd_var 7) pd_int)) pad_nil)) (pd_var 9)) (pad_cons (pd_mul (pd_tup (pad_cons pd_bl pad_nil)) (pd_var 9)) (pad_cons (pd_mul (pd_tup (pad_cons (pd_neg pd_int) pad_nil)) (pd_var 9)) pad_nil)))))))) (pd_mod (pd_callG 1 k_law_draw hr (by decide) tk pad_nil) pd_int)))
    (pssd_cons (psd_if (ptd_not (ptd_val (pd_call k_law_equal hr (by decide) tk (pad_cons (pd_call k_is_choice hr (by decide) tk (pad_cons (pd_var 7) (pad_cons (pd_var 14) pad_nil))) (pad_cons pd_bl pad_nil)))))
    (pssd_one (psd_ret pd_bl))
    pssd_nil)
    (pssd_one (psd_for hp rfl (pid_seq (pd_share (po_lst (pad_cons pd_str (pad_cons pd_str (pad_cons pd_str (pad_cons pd_str pad_nil))))))) (pgd_name 4 sc_law.nd)
    (pssd_one (psd_if (ptd_cmp (c_ne hr) (pd_call k_law_error hr (by decide) tk (pad_cons (pd_var 4) (pad_cons (pd_var 7) (pad_cons (pd_var 14) (pad_cons pd_int (pad_cons pd_int pad_nil)))))) pd_str)
    (pssd_one (psd_ret pd_bl))
    pssd_nil)))))))))))))))))))
    (pssd_cons (psd_set 3 sc_law.nd (pd_callG 1 k_law_spoilt hr (by decide) tk (pad_cons (pd_var 7) pad_nil)))
    (pssd_cons (psd_if (ptd_not (ptd_val (pd_call k_law_equal hr (by decide) tk (pad_cons (pd_call k_is_lottery hr (by decide) tk (pad_cons (pd_var 3) pad_nil)) (pad_cons pd_bl pad_nil)))))
    (pssd_one (psd_ret pd_bl))
    pssd_nil)
    (pssd_cons (psd_for hp rfl (pid_seq (pd_share (po_lst (pad_cons pd_str (pad_cons pd_str (pad_cons pd_str (pad_cons pd_str (pad_cons pd_str pad_nil)))))))) (pgd_name 4 sc_law.nd)
    (pssd_one (psd_if (ptd_cmp (c_ne hr) (pd_call k_law_error hr (by decide) tk (pad_cons (pd_var 4) (pad_cons (pd_var 3) (pad_cons (pd_var 8) (pad_cons pd_int (pad_cons pd_int pad_nil)))))) pd_str)
    (pssd_one (psd_ret pd_bl))
    pssd_nil)))
    (pssd_cons (psd_set 5 sc_law.nd (pd_ix (pd_share (po_lst (pad_cons (pd_var 9) (pad_cons (pd_neg pd_int) (pad_cons pd_bl (pad_cons pd_non pad_nil)))))) (pd_mod (pd_callG 1 k_law_draw hr (by decide) tk pad_nil) pd_int)))
    (pssd_cons (psd_for hp rfl (pid_seq (pd_share (po_lst (pad_cons pd_str (pad_cons pd_str (pad_cons pd_str (pad_cons pd_str pad_nil))))))) (pgd_name 4 sc_law.nd)
    (pssd_one (psd_if (ptd_cmp (c_ne hr) (pd_call k_law_error hr (by decide) tk (pad_cons (pd_var 4) (pad_cons (pd_var 7) (pad_cons (pd_var 8) (pad_cons (pd_var 5) (pad_cons pd_int pad_nil)))))) pd_str)
    (pssd_one (psd_ret pd_bl))
    pssd_nil)))
    (pssd_cons (psd_if (ptd_cmp (c_ne hr) (pd_call k_law_error hr (by decide) tk (pad_cons pd_str (pad_cons (pd_var 7) (pad_cons (pd_var 8) (pad_cons pd_int (pad_cons (pd_ix (pd_share (po_lst (pad_cons pd_non (pad_cons (pd_tup (pad_cons pd_int pad_nil)) (pad_cons (pd_share (po_lst (pad_cons (pd_len T.n_len (pd_ix (pd_var 7) pd_int)) pad_nil))) (pad_cons (pd_share (po_lst (pad_cons pd_bl pad_nil))) (pad_cons (pd_mul (pd_share (po_lst (pad_cons pd_int pad_nil))) pd_int) pad_nil))))))) (pd_mod (pd_callG 1 k_law_draw hr (by decide) tk pad_nil) pd_int)) pad_nil)))))) pd_str)
    (pssd_one (psd_ret pd_bl))
    pssd_nil)
    (pssd_cons (psd_set 6 sc_law.nd (pd_ix (pd_share (po_lst (pad_cons (pd_neg pd_int) (pad_cons pd_int (pad_cons pd_bl (pad_cons pd_non pad_nil)))))) (pd_mod (pd_callG 1 k_law_draw hr (by decide) tk pad_nil) pd_int)))
    (pssd_cons (psd_if (PW.pt (pwd_or (ptd_cmp (c_ne hr) (pd_call k_law_error hr (by decide) tk (pad_cons pd_str (pad_cons (pd_var 7) (pad_cons (pd_var 8) (pad_cons pd_int (pad_cons (pd_var 6) pad_nil)))))) pd_str) (pwd_or1 (ptd_cmp (c_ne hr) (pd_call k_law_error hr (by decide) tk (pad_cons pd_str (pad_cons (pd_var 7) (pad_cons (pd_var 8) (pad_cons pd_int (pad_cons (pd_var 6) pad_nil)))))) pd_str))))
    (pssd_one (psd_ret pd_bl))
    pssd_nil)
    (pssd_one (psd_ret (pd_cmp (c_eq hr) (pd_call k_law_error hr (by decide) tk (pad_cons pd_str (pad_cons (pd_var 7) (pad_cons (pd_var 8) (pad_cons (pd_ix (pd_share (po_lst (pad_cons pd_non (pad_cons (pd_share (po_lst (pad_cons pd_int pad_nil))) (pad_cons (pd_tup (pad_cons (pd_var 9) pad_nil)) (pad_cons (pd_tup (pad_cons pd_int (pad_cons pd_int pad_nil))) (pad_cons (pd_tup (pad_cons pd_bl pad_nil)) pad_nil))))))) (pd_mod (pd_callG 1 k_law_draw hr (by decide) tk pad_nil) pd_int)) (pad_cons pd_non pad_nil)))))) pd_str)))))))))))))) hm
end
end K

set_option Elab.async false
set_option linter.all false
set_option maxRecDepth 100000
set_option maxHeartbeats 400000
namespace K
open PySem DL PyProof.Rows
/-! the laws' common helpers: what their mirrors give -/
def mixI (n k : Int) : Int := (((n * 48271 + k * 69621 + 12345) % 2147483647) * (((n * 48271 + k * 69621 + 12345) % 2147483647) / 65536 + 3) + k) % 2147483647
theorem mixed_eq (n k : Int) (g : G) : m_law_mixed [.int n, .int k] g = .ok (.int (mixI n k)) g := by
  have h : (-18446744073709551616 < (n * 48271 + k * 69621 + 12345) % 2147483647 ∧ (n * 48271 + k * 69621 + 12345) % 2147483647 < 18446744073709551616) := by omega
  simp [m_law_mixed, b_law_mixed, h, mixI]
theorem mixed_ex : ∃ mx : Int → Int → Int, ∀ (n k : Int) (g : G), m_law_mixed [.int n, .int k] g = .ok (.int (mx n k)) g := ⟨mixI, mixed_eq⟩
theorem draw1 {ms : List Int} {m0 : Int} (j : Nat) (hj : j < ms.length) (h1 : L2.atI (ms.map PyData.int) (j : Int) = some (.int m0)) : m_law_draw [] (some (ms, (j : Int))) = .ok (.int m0) (some (ms, (j : Int) + 1)) := by
  simp [m_law_draw, b_law_draw, ixD, h1, hj]
theorem draw2 {ms : List Int} {m0 : Int} (mixI : Int → Int → Int) (mixed_eq : ∀ (n k : Int) (g : G), m_law_mixed [.int n, .int k] g = .ok (.int (mixI n k)) g) (j : Nat) (hj : ¬ j < ms.length) (h0 : 0 < ms.length) (h1 : L2.atI (ms.map PyData.int) 0 = some (.int m0)) : m_law_draw [] (some (ms, (j : Int))) = .ok (.int (mixI (mixI (1 + (j : Int) + 1009 * m0) j) 5 % 1000000)) (some (ms, (j : Int) + 1)) := by
  simp only [m_law_draw, b_law_draw, fnD, seqS, setS_ap, dr1]
  simp [ixD, h1, hj, h0]
  simp [mixed_eq]
theorem draw3 (mixI : Int → Int → Int) (mixed_eq : ∀ (n k : Int) (g : G), m_law_mixed [.int n, .int k] g = .ok (.int (mixI n k)) g) (i : Int) (hj : decide (i < 0) = false) : m_law_draw [] (some ([], i)) = .ok (.int (mixI (mixI (1 + i) i) 5 % 1000000)) (some ([], i + 1)) := by
  simp only [m_law_draw, b_law_draw, fnD, seqS, setS_ap, dr1]
  simp [ixD, hj]
  simp [mixed_eq]
/-- the draws' state: the numbers fixed, the count not below nought -/
def Dr (ms : List Int) (g : G) : Prop := ∃ i : Int, 0 ≤ i ∧ g = some (ms, i)
theorem draw_any {ms : List Int} {g : G} (hg : Dr ms g) : ∃ (r : Int) (g' : G), m_law_draw [] g = .ok (.int r) g' ∧ Dr ms g' := by
  obtain ⟨i, hi, rfl⟩ := hg
  obtain ⟨j, rfl⟩ : ∃ j : Nat, i = (j : Int) := ⟨i.toNat, by omega⟩
  obtain ⟨mx, hx⟩ := mixed_ex
  by_cases hj : j < ms.length
  · exact ⟨_, some (_, _), draw1 j hj (L2.atI_nat (by rw [List.getElem?_map, List.getElem?_eq_getElem hj]; rfl)), _, by omega, rfl⟩
  · by_cases h0 : 0 < ms.length
    · exact ⟨_, some (_, _), draw2 mx hx j hj h0 (L2.atI_nat (j := 0) (by rw [List.getElem?_map, List.getElem?_eq_getElem h0]; rfl)), _, by omega, rfl⟩
    · obtain rfl : ms = [] := List.eq_nil_of_length_eq_zero (by omega)
      exact ⟨_, some (_, _), draw3 mx hx j (decide_eq_false (by omega)), _, by omega, rfl⟩
theorem md {r n : Int} (h : 0 < n) : modD (.int r) (.int n) = some (.int (r % n)) := by simp [h]
theorem md_bd {r n : Int} (h : 0 < n) : 0 ≤ r % n ∧ r % n < n := ⟨Int.emod_nonneg _ (by omega), Int.emod_lt_of_pos _ h⟩
/-- data of a depth of at most n -/
def Dep : Nat → PyData → Prop
  | _, .none => True
  | _, .bool _ => True
  | _, .int _ => True
  | _, .str _ => True
  | n + 1, .list ds => ∀ d ∈ ds, Dep n d
  | n + 1, .tuple ds => ∀ d ∈ ds, Dep n d
  | _, _ => False
theorem all_refl {m : Fn} {g : G} {D : PyData} {ds : List PyData} (hD : D = .list ds ∨ D = .tuple ds) (hl : ds.length ≤ 1000000) (h : ∀ d ∈ ds, m [d, d] g = .ok (.bool true) g) : fnD 1 false (b_law_all_equal m) [D, D] g = .ok (.bool true) g := by
  have hlen : lenD D = some (.int ds.length) := by rcases hD with rfl | rfl <;> rfl
  have hix : ∀ k : Nat, (hk : k < ds.length) → ixD D (.int (0 + (k : Int))) = some ds[k] := fun k hk => by
    have e := atI_at (xs := ds) (i := 0 + (k : Int)) (j := k) (by omega) (List.getElem?_eq_getElem hk)
    rcases hD with rfl | rfl <;> exact e
  obtain ⟨ρ', g', h1, rfl, z, rfl⟩ := forD_all (t := nameT 2) (body := ifS (notT (truthD (callD 2 m (consD (opD ixD (varD 0) (varD 2)) (consD (opD ixD (varD 1) (varD 2)) nilD))))) (retS (constD (.bool false))) nextS) (fun k : Nat => PyData.int (0 + (k : Int)))
    (fun _ ρ g' => g' = g ∧ ∃ z, ρ = [.sh D, .sh D, z]) (List.range ds.length) (by
      rintro pre k post e ρ g' ⟨rfl, z, rfl⟩
      have hk : k < ds.length := by
        have : k ∈ List.range ds.length := by rw [e]; simp
        exact List.mem_range.mp this
      refine ⟨_, _, g', rfl, .inl ?_, rfl, .sh (.int (0 + (k : Int))), rfl⟩
      have hi := hix k hk
      have hm := h _ (List.getElem_mem hk)
      simp only [Int.zero_add] at hi
      simp [hi, hm]) (ρ := [.sh D, .sh D, .no]) (g := g) ⟨rfl, .no, rfl⟩
  have hb : (ds.length : Int) ≤ 1000000 ∧ -1000000 ≤ (ds.length : Int) := by omega
  have h2 := h1
  rw [show (List.range ds.length).map (fun k : Nat => PyData.int (0 + (k : Int))) = upFrom 0 ds.length from rfl] at h2
  rcases hD with rfl | rfl <;> simp [b_law_all_equal, hlen, big, hb, h2]
/-- no list or tuple in it is too long -/
def Nar : Nat → PyData → Prop
  | n + 1, .list ds => ds.length ≤ 1000000 ∧ ∀ d ∈ ds, Nar n d
  | n + 1, .tuple ds => ds.length ≤ 1000000 ∧ ∀ d ∈ ds, Nar n d
  | _, .none => True
  | _, .bool _ => True
  | _, .int _ => True
  | _, .str _ => True
  | _, _ => False
theorem eq_step {ds : List PyData} {D : PyData} {m : Fn} {g : G} (hD : D = .list ds ∨ D = .tuple ds) (h : m [D, D] g = .ok (.bool true) g) : fnD 0 false (b_law_equal m) [D, D] g = .ok (.bool true) g := by
  rcases hD with rfl | rfl <;> simp [b_law_equal, isT, eqD, neD, SeqAt.shaped, h]
theorem eq_refl : ∀ (n : Nat) (d : PyData) (g : G) (k : Nat), Nar n d → 2 * n + 1 ≤ k → eqA k [d, d] g = .ok (.bool true) g := by
  intro n
  induction n with
  | zero =>
    intro d g k hd hk
    obtain ⟨k, rfl⟩ : ∃ j, k = j + 1 := ⟨k - 1, by omega⟩
    unfold eqA
    cases d <;> first | (exact False.elim hd) | simp [b_law_equal, isT, eqD, SeqAt.shaped]
  | succ n ih =>
    intro d g k hd hk
    obtain ⟨k, rfl⟩ : ∃ j, k = j + 2 := ⟨k - 2, by omega⟩
    have go : ∀ ds, (d = .list ds ∨ d = .tuple ds) → ds.length ≤ 1000000 → (∀ e ∈ ds, Nar n e) → eqA (k + 2) [d, d] g = .ok (.bool true) g := fun ds hD hl hs => by
      unfold eqA
      refine eq_step hD ?_
      unfold eqB
      exact all_refl hD hl fun e he => ih e g k (hs e he) (by omega)
    cases d with
    | list ds => exact go ds (.inl rfl) hd.1 hd.2
    | tuple ds => exact go ds (.inr rfl) hd.1 hd.2
    | none => unfold eqA; simp [b_law_equal, isT, eqD, SeqAt.shaped]
    | bool b => unfold eqA; simp [b_law_equal, isT, eqD, SeqAt.shaped]
    | int i => unfold eqA; simp [b_law_equal, isT, eqD, SeqAt.shaped]
    | str t => unfold eqA; simp [b_law_equal, isT, eqD, SeqAt.shaped]
    | _ => exact False.elim hd
theorem equal_refl {d : PyData} (g : G) (h : Nar 7 d) : m_law_equal [d, d] g = .ok (.bool true) g := eq_refl 7 d g 16 h (by decide)
/-! the script's numbers -/
def NumR (n : Nat) (ρ : Nv) (g : G) : Prop := g = none ∧ ∃ (ms : List Int) (z2 z3 z4 : Sl), ρ = [.sc, .ow (.lst (ms.map PyData.int)), z2, z3, z4] ∧ ms.length ≤ n ∧ ∀ m ∈ ms, 0 ≤ m ∧ m < 1000000
theorem mem_snoc {ms : List Int} {a : Int} (h : ∀ m ∈ ms, 0 ≤ m ∧ m < 1000000) : ∀ m ∈ ms ++ [a % 1000000], 0 ≤ m ∧ m < 1000000 := fun m hm => by
  rcases List.mem_append.mp hm with z | z
  · exact h m z
  · obtain rfl := List.mem_singleton.mp z
    exact ⟨Int.emod_nonneg _ (by decide), Int.emod_lt_of_pos _ (by decide)⟩
theorem pow1018 : (10 : Int) ^ (18 : Int).toNat = 1000000000000000000 := by decide
theorem num_small (mx : Int → Int → Int) (hx : ∀ (n k : Int) (g : G), m_law_mixed [.int n, .int k] g = .ok (.int (mx n k)) g) {c : Int} {ms : List Int} {z2 z3 z4 : Sl} (hc : decide (1000000000000000000 ≤ c) = false) (hl : ms.length ≤ 4000) (hs : ∀ m ∈ ms, 0 ≤ m ∧ m < 1000000) :
    ∃ ρ', b_law_numbers [.sc, .ow (.lst (ms.map PyData.int)), .sh (.int c), z3, z4] none = .nx ρ' none ∧ NumR (ms.length + 60) ρ' none := by
  obtain ⟨ρ', g', h1, rfl, ms', z, rfl, h3, h4⟩ := forD_all (t := nameT 4) (body := appS 1 (opD modD (callD 2 m_law_mixed (consD (callD 2 m_law_mixed (consD (opD modD (varD 2) (constD (.int 2147483647))) (consD (varD 4) nilD))) (consD (opD addD (varD 4) (constD (.int 7))) nilD))) (constD (.int 1000000)))) (fun k : Nat => PyData.int (0 + (k : Int)))
    (fun pre ρ g' => g' = none ∧ ∃ (ms' : List Int) (z : Sl), ρ = [.sc, .ow (.lst (ms'.map PyData.int)), .sh (.int c), z3, z] ∧ ms'.length = ms.length + 1 + pre.length ∧ ∀ m ∈ ms', 0 ≤ m ∧ m < 1000000) (List.range 5) (by
      rintro pre k post e ρ g' ⟨rfl, ms', z, rfl, h1, h2⟩
      have hk : pre.length < 5 := by
        have := congrArg List.length e
        simp at this
        omega
      have hb : ms'.length < 1000000 := by omega
      refine ⟨_, _, none, rfl, .inl ?_, rfl, ms' ++ [mx (mx (c % 2147483647) k) (k + 7) % 1000000], .sh (.int (0 + (k : Int))), rfl, by simp; omega, mem_snoc h2⟩
      simp [hx, big, hb]) (ρ := [.sc, .ow (.lst ((ms ++ [c % 1000000]).map PyData.int)), .sh (.int c), z3, z4]) (g := none) ⟨rfl, _, _, rfl, by simp, mem_snoc hs⟩
  refine ⟨[.sc, .ow (.lst (ms'.map PyData.int)), .sh (.int c), z3, z], ?_, rfl, ms', .sh (.int c), z3, z, rfl, by rw [h3, List.length_range]; omega, h4⟩
  have hb : ms.length < 1000000 := by omega
  have h2 := h1
  rw [show (List.range 5).map (fun k : Nat => PyData.int (0 + (k : Int))) = upFrom 0 5 from rfl] at h2
  rw [List.map_append] at h2
  have h6 : appS 1 (opD modD (varD 2) (constD (.int 1000000))) [.sc, .ow (.lst (ms.map PyData.int)), .sh (.int c), z3, z4] none = .nx [.sc, .ow (.lst (ms.map PyData.int ++ [PyData.int (c % 1000000)])), .sh (.int c), z3, z4] none := by
    simp [big, hb]
  have h7 : boolD (opD (cmpD fun i j => decide (j ≤ i)) (varD 2) (opD powD (constD (.int 10)) (constD (.int 18)))) [.sc, .ow (.lst (ms.map PyData.int)), .sh (.int c), z3, z4] none = .ok false none := by
    simp [pow1018, hc]
  unfold b_law_numbers ifS
  rw [h7]
  show seqS _ _ _ _ = _
  unfold seqS
  rw [h6]
  show forS _ _ _ _ _ = _
  unfold forS
  rw [show rangeD (constD (.int 5)) [.sc, .ow (.lst (ms.map PyData.int ++ [PyData.int (c % 1000000)])), .sh (.int c), z3, z4] none = .ok (upFrom 0 5) none by simp [big]]
  exact h2
theorem num_big {c : Int} {ms : List Int} {z2 z3 z4 : Sl} (hc : decide (1000000000000000000 ≤ c) = true) (hl : ms.length ≤ 4000) (hs : ∀ m ∈ ms, 0 ≤ m ∧ m < 1000000) :
    ∃ ρ', b_law_numbers [.sc, .ow (.lst (ms.map PyData.int)), .sh (.int c), z3, z4] none = .nx ρ' none ∧ NumR (ms.length + 60) ρ' none := by
  obtain ⟨ρ', g', h1, rfl, ms', r, z, rfl, h3, h4⟩ := forD_all (t := nameT 4) (body := (ifS (boolD (opD (cmpD fun i j => decide (j < i)) (varD 3) (constD (.int 0))))
  (seqS (appS 1 (opD modD (varD 3) (constD (.int 1000000))))
  (setS 3 (opD fdivD (varD 3) (constD (.int 1000000)))))
  nextS)) (fun k : Nat => PyData.int (0 + (k : Int)))
    (fun pre ρ g' => g' = none ∧ ∃ (ms' : List Int) (r : Int) (z : Sl), ρ = [.sc, .ow (.lst (ms'.map PyData.int)), .sh (.int c), .sh (.int r), z] ∧ ms'.length ≤ ms.length + pre.length ∧ ∀ m ∈ ms', 0 ≤ m ∧ m < 1000000) (List.range 60) (by
      rintro pre k post e ρ g' ⟨rfl, ms', r, z, rfl, h1, h2⟩
      have hk : pre.length < 60 := by
        have := congrArg List.length e
        simp at this
        omega
      have hb : ms'.length < 1000000 := by omega
      by_cases hr : 0 < r
      · refine ⟨_, _, none, rfl, .inl ?_, rfl, ms' ++ [r % 1000000], r / 1000000, .sh (.int (0 + (k : Int))), rfl, by simp; omega, mem_snoc h2⟩
        simp [big, hb, hr]
      · refine ⟨_, _, none, rfl, .inl ?_, rfl, ms', r, .sh (.int (0 + (k : Int))), rfl, by simp; omega, h2⟩
        simp [big, hb, hr]) (ρ := [.sc, .ow (.lst (ms.map PyData.int)), .sh (.int c), .sh (.int c), z4]) (g := none) ⟨rfl, _, _, _, rfl, by simp, hs⟩
  refine ⟨[.sc, .ow (.lst (ms'.map PyData.int)), .sh (.int c), .sh (.int r), z], ?_, rfl, ms', .sh (.int c), .sh (.int r), z, rfl, by rw [List.length_range] at h3; exact h3, h4⟩
  have h2 := h1
  rw [show (List.range 60).map (fun k : Nat => PyData.int (0 + (k : Int))) = upFrom 0 60 from rfl] at h2
  have h7 : boolD (opD (cmpD fun i j => decide (j ≤ i)) (varD 2) (opD powD (constD (.int 10)) (constD (.int 18)))) [.sc, .ow (.lst (ms.map PyData.int)), .sh (.int c), z3, z4] none = .ok true none := by
    simp [pow1018, hc]
  unfold b_law_numbers ifS
  rw [h7]
  show seqS _ _ _ _ = _
  unfold seqS
  rw [show setS 3 (varD 2) [.sc, .ow (.lst (ms.map PyData.int)), .sh (.int c), z3, z4] none = .nx [.sc, .ow (.lst (ms.map PyData.int)), .sh (.int c), .sh (.int c), z4] none from rfl]
  show forS _ _ _ _ _ = _
  unfold forS
  rw [show rangeD (constD (.int 60)) [.sc, .ow (.lst (ms.map PyData.int)), .sh (.int c), .sh (.int c), z4] none = .ok (upFrom 0 60) none by simp [big]]
  exact h2
theorem numbers_ok (ns : List Int) (hn : ns.length ≤ 63) : ∃ (ms : List Int) (ρ' : Nv), Small ms ∧ forD t_law_numbers b_law_numbers (ns.map PyData.int) (.sc :: .ow (.lst []) :: List.replicate 3 .no) none = .nx ρ' none ∧ ρ'[1]? = some (.ow (.lst (ms.map PyData.int))) := by
  obtain ⟨mx, hx⟩ := mixed_ex
  obtain ⟨ρ', g', h1, rfl, ms, z2, z3, z4, rfl, h2, h3⟩ := forD_all (t := t_law_numbers) (body := b_law_numbers) PyData.int (fun pre ρ g => NumR (60 * pre.length) ρ g) ns (by
    rintro pre c post e ρ g ⟨rfl, ms, z2, z3, z4, rfl, h1, h2⟩
    have hk : pre.length < 63 := by
      have := congrArg List.length e
      simp at this
      omega
    have go : ∃ ρ', b_law_numbers [.sc, .ow (.lst (ms.map PyData.int)), .sh (.int c), z3, z4] none = .nx ρ' none ∧ NumR (ms.length + 60) ρ' none := by
      cases hc : decide (1000000000000000000 ≤ c) with
      | true => exact num_big (z2 := z2) hc (by omega) h2
      | false => exact num_small mx hx (z2 := z2) hc (by omega) h2
    obtain ⟨ρ', h3, _, ms', y2, y3, y4, rfl, h5, h6⟩ := go
    exact ⟨_, _, none, rfl, .inl h3, rfl, ms', y2, y3, y4, rfl, by simp; omega, h6⟩) (ρ := .sc :: .ow (.lst []) :: List.replicate 3 .no) (g := none) ⟨rfl, [], .no, .no, .no, rfl, by simp, fun _ h => nomatch h⟩
  exact ⟨ms, _, ⟨by omega, h3⟩, h1, rfl⟩
/-! stepping through a body that must end with a given answer -/
section
variable {d : PyData}
def Ends (s : Sm) (ρ : Nv) (g : G) (d : PyData) : Prop := ∃ g', s ρ g = .rt d g'
theorem go_seq {a b : Sm} {ρ ρ1 : Nv} {g g1 : G} (h : a ρ g = .nx ρ1 g1) (k : Ends b ρ1 g1 d) : Ends (seqS a b) ρ g d := by
  obtain ⟨g', k⟩ := k
  exact ⟨g', by unfold seqS; rw [h]; exact k⟩
theorem go_shut {b : Sm} {i : Nat} {ds : List PyData} {ρ ρ1 : Nv} {g : G} (h : ρ[i]? = some (.ow (.lst ds))) (h1 : ρ.set i (.sh (.list ds)) = ρ1) (k : Ends b ρ1 g d) : Ends (shutS i b) ρ g d := by
  obtain ⟨g', k⟩ := k
  exact ⟨g', by unfold shutS; rw [h]; show b (ρ.set i _) g = _; rw [h1]; exact k⟩
theorem if_no {c : Te} {s t : Sm} {ρ : Nv} {g g1 : G} (h : c ρ g = .ok false g1) : ifS c s t ρ g = t ρ g1 := by unfold ifS; rw [h]
theorem if_yes {c : Te} {s t : Sm} {ρ : Nv} {g g1 : G} (h : c ρ g = .ok true g1) : ifS c s t ρ g = s ρ g1 := by unfold ifS; rw [h]
theorem for_run {fi : Ar} {t : Tg} {b : Sm} {ds : List PyData} {ρ ρ1 : Nv} {g g1 g2 : G} (h : fi ρ g = .ok ds g1) (k : forD t b ds ρ g1 = .nx ρ1 g2) : forS fi t b ρ g = .nx ρ1 g2 := by unfold forS; rw [h]; exact k
end
end K

set_option Elab.async false
set_option linter.all false
set_option maxRecDepth 100000
set_option maxHeartbeats 400000
namespace K
open PySem DL PyProof.Rows
/-! what is needed everywhere: items, loops, tests, parts of expressions -/
@[simp] theorem ix0 (a : PyData) (r : List PyData) : ixD (.tuple (a :: r)) (.int 0) = some a := L2.atI_nat (j := 0) rfl
@[simp] theorem ix1 (a b : PyData) (r : List PyData) : ixD (.tuple (a :: b :: r)) (.int 1) = some b := L2.atI_nat (j := 1) rfl
@[simp] theorem ix2 (a b c : PyData) (r : List PyData) : ixD (.tuple (a :: b :: c :: r)) (.int 2) = some c := L2.atI_nat (j := 2) rfl
@[simp] theorem ix0l (a : PyData) (r : List PyData) : ixD (.list (a :: r)) (.int 0) = some a := L2.atI_nat (j := 0) rfl
theorem ix_map {α : Type} (enc : α → PyData) (xs : List α) (k : Nat) (x : α) (h : xs[k]? = some x) : ixD (.tuple (xs.map enc)) (.int (k : Int)) = some (enc x) := L2.atI_nat (by rw [List.getElem?_map, h]; rfl)
theorem ix_mapl {α : Type} (enc : α → PyData) (xs : List α) (k : Nat) (x : α) (h : xs[k]? = some x) : ixD (.list (xs.map enc)) (.int (k : Int)) = some (enc x) := L2.atI_nat (by rw [List.getElem?_map, h]; rfl)
theorem shp_list {ds : List PyData} (h : ∀ d ∈ ds, d.canLay0 = true ∧ d.depth ≤ 10) : SeqAt.shaped (.list ds) = true := by
  have h1 : PyData.canLayAll0 ds = true ∧ PyData.depthAll ds ≤ 10 := by
    induction ds with
    | nil => exact ⟨by simp [PyData.canLayAll0], by simp [PyData.depthAll]⟩
    | cons d r ih =>
      obtain ⟨a, b⟩ := ih fun z hz => h z (List.mem_cons_of_mem _ hz)
      obtain ⟨a', b'⟩ := h d List.mem_cons_self
      exact ⟨by simp [PyData.canLayAll0, a, a'], by simp [PyData.depthAll]; omega⟩
  simp [SeqAt.shaped, PyData.canLay0, PyData.depth, h1.1]
  omega
theorem seq_eq {a b : Sm} {ρ ρ1 : Nv} {g g1 : G} (h : a ρ g = .nx ρ1 g1) : seqS a b ρ g = b ρ1 g1 := by unfold seqS; rw [h]
theorem range_pre {m k : Nat} {pre post : List Nat} (e : List.range m = pre ++ k :: post) : pre.length = k ∧ k < m ∧ pre = List.range k := by
  have h1 : (List.range m)[pre.length]? = some k := by rw [e]; simp
  obtain ⟨h2, h3⟩ := List.getElem?_eq_some_iff.mp h1
  rw [List.getElem_range] at h3
  rw [List.length_range] at h2
  refine ⟨h3, by omega, ?_⟩
  have h4 : (List.range m).take pre.length = pre := by rw [e]; simp
  rw [List.take_range, Nat.min_eq_left (by omega), h3] at h4
  exact h4.symm
theorem whileS_eq {c : Te} {b : Sm} {n : Nat} {ρ : Nv} {g : G} {r : SR} (h : whileN c b n ρ g = r) (hr : r ≠ .bad) : whileS c b ρ g = r := by
  have hn : whileN c b n ρ g ≠ .bad := by rw [h]; exact hr
  have he : ∃ n, whileN c b n ρ g ≠ .bad := ⟨n, hn⟩
  unfold whileS
  rw [dif_pos he]
  have h1 := Classical.choose_spec he
  have a := whileN_mono h1 n
  have b' := whileN_mono hn (Classical.choose he)
  rw [Nat.add_comm] at a
  rw [a] at b'
  rw [← h, ← b']
theorem whileS_run {c : Te} {b : Sm} (P : Nat → Nv → G → Prop) (Qf : Nv → G → Prop) (step : ∀ k ρ g, P k ρ g → (c ρ g = .ok false g ∧ Qf ρ g) ∨ (∃ g1 ρ2 g2 k2, c ρ g = .ok true g1 ∧ b ρ g1 = .nx ρ2 g2 ∧ P k2 ρ2 g2 ∧ k2 < k)) :
    ∀ k ρ g, P k ρ g → ∃ ρ' g', whileS c b ρ g = .nx ρ' g' ∧ Qf ρ' g' := by
  have key : ∀ k ρ g, P k ρ g → ∃ n ρ' g', whileN c b n ρ g = .nx ρ' g' ∧ Qf ρ' g' := by
    intro k
    induction k using Nat.strongRecOn with
    | ind k ih =>
      intro ρ g h
      rcases step k ρ g h with ⟨h1, h2⟩ | ⟨g1, ρ2, g2, k2, h1, h2, h3, h4⟩
      · refine ⟨1, ρ, g, ?_, h2⟩
        unfold whileN
        rw [h1]
      · obtain ⟨n, ρ', g', h5, h6⟩ := ih k2 h4 ρ2 g2 h3
        refine ⟨n + 1, ρ', g', ?_, h6⟩
        unfold whileN
        rw [h1]
        simp only [h2, h5]
  intro k ρ g h
  obtain ⟨n, ρ', g', h1, h2⟩ := key k ρ g h
  exact ⟨ρ', g', whileS_eq h1 (fun z => nomatch z), h2⟩
theorem find_none {α : Type} (p : α → Bool) (l : List α) : (l.find? fun x => !p x) = none ↔ l.all p = true := by
  rw [List.find?_eq_none, List.all_eq_true]
  constructor
  · intro h x hx
    have := h x hx
    simpa using this
  · intro h x hx
    simp [h x hx]
theorem find_some {α : Type} (p : α → Bool) (l : List α) {x : α} (h : (l.find? fun x => !p x) = some x) : l.all p = false := by
  cases e : l.all p with
  | false => rfl
  | true =>
    rw [(find_none p l).mpr e] at h
    cases h
theorem forD_find {α : Type} {t : Tg} {body : Sm} (enc : α → PyData) (R : Nv → Prop) (c : α → Bool) (res : α → PyData) (g : DL.G) : ∀ (xs : List α), (∀ x ∈ xs, ∀ ρ, R ρ → ∃ ρ1 ρ2, t (enc x) ρ = some ρ1 ∧ R ρ2 ∧ body ρ1 g = if c x = true then .rt (res x) g else .nx ρ2 g) → ∀ ρ, R ρ →
    (∃ x, xs.find? c = some x ∧ forD t body (xs.map enc) ρ g = .rt (res x) g) ∨ (xs.find? c = none ∧ ∃ ρ', R ρ' ∧ forD t body (xs.map enc) ρ g = .nx ρ' g) := by
  intro xs
  induction xs with
  | nil => intro _ ρ r; exact .inr ⟨rfl, ρ, r, rfl⟩
  | cons x xs ih =>
    intro h ρ r
    obtain ⟨ρ1, ρ2, h1, h2, h3⟩ := h x (by simp) ρ r
    rw [List.map_cons]
    by_cases hc : c x = true
    · rw [if_pos hc] at h3
      refine .inl ⟨x, by rw [List.find?_cons_of_pos hc], ?_⟩
      unfold forD
      rw [h1]
      simp only [h3]
    · rw [if_neg hc] at h3
      rw [List.find?_cons_of_neg hc]
      have e : forD t body (enc x :: xs.map enc) ρ g = forD t body (xs.map enc) ρ2 g := by
        rw [forD, h1]
        simp only [h3]
      rw [e]
      exact ih (fun y hy => h y (by simp [hy])) ρ2 h2
theorem comp_none {α : Type} {i : Nat} {cond : Te} (enc : α → PyData) (xs : List α) (ρ : Nv) (g : G) (h : ∀ x ∈ xs, cond (ρ.set i (.sh (enc x))) g = .ok false g) : compD (nameT i) cond (varD i) (xs.map enc) ρ g = .ok [] g := by
  have := compD_pure (t := nameT i) (cond := cond) (elt := varD i) enc (fun _ => false) enc xs ρ g fun x hx => ⟨_, rfl, h x hx, fun z => nomatch z⟩
  rw [this]
  rw [show xs.filter (fun _ => false) = [] from List.filter_eq_nil_iff.mpr fun _ _ => by simp]
  rfl
theorem within_ok {v a b : Int} (h : a ≤ v ∧ v ≤ b) (g : G) : m_is_within [.int v, .int a, .int b] g = .ok (.bool true) g := by
  simp [m_is_within, b_is_within, isT, h]
theorem within_dec (v a b : Int) (g : DL.G) : m_is_within [.int v, .int a, .int b] g = .ok (.bool (decide (a ≤ v ∧ v ≤ b))) g := by
  by_cases h1 : a ≤ v
  · by_cases h2 : v ≤ b <;> simp [m_is_within, b_is_within, isT, h1, h2]
  · simp [m_is_within, b_is_within, isT, h1]
theorem tuple_ok (ds : List PyData) (k : Int) (h : (ds.length : Int) = k) (g : G) : m_is_tuple [.tuple ds, .int k] g = .ok (.bool true) g := by
  simp [m_is_tuple, b_is_tuple, isT, eqD, h]
theorem cut_map {α : Type} (f : α → PyData) (l : List α) (lo hi : Option Int) : ∃ l' : List α, cutP (l.map f) lo hi = l'.map f ∧ l'.length ≤ l.length ∧ ∀ x ∈ l', x ∈ l := by
  unfold cutP
  rw [List.length_map]
  refine ⟨(l.drop (HT.sIx l.length 0 lo)).take (HT.sIx l.length l.length hi - HT.sIx l.length 0 lo), by rw [List.map_take, List.map_drop], by rw [List.length_take, List.length_drop]; omega, fun x hx => List.mem_of_mem_drop (List.mem_of_mem_take hx)⟩
theorem cons_ok {e : Ex} {es : Ar} {d : PyData} {ds : List PyData} {ρ : Nv} {g : DL.G} (h1 : e ρ g = .ok d g) (h2 : es ρ g = .ok ds g) : consD e es ρ g = .ok (d :: ds) g := by
  simp [h1, h2]
theorem comp_pure {α : Type} {fi : Ar} {j : Nat} {e : Ex} (enc : α → PyData) (f : α → PyData) (xs : List α) {ρ : Nv} {g : DL.G} (hi : fi ρ g = .ok (xs.map enc) g) (hl : xs.length ≤ 1000) (h : ∀ x ∈ xs, e ((ρ.set j .no).set j (.sh (enc x))) g = .ok (f x) g) : shareO (lcO fi [j] (nameT j) yesT e) ρ g = .ok (.list (xs.map f)) g := by
  have c := compD_pure (t := nameT j) (cond := yesT) (elt := e) enc (fun _ => true) f xs (ρ.set j .no) g fun x hx => ⟨_, rfl, rfl, fun _ => h x hx⟩
  rw [List.filter_eq_self.mpr fun _ _ => rfl] at c
  have hb : xs.length ≤ 1000000 := by omega
  simp [hi, hb, big, c]
theorem op_ok {o : PyData → PyData → Option PyData} {e1 e2 : Ex} {a b d : PyData} {ρ : Nv} {g : DL.G} (h1 : e1 ρ g = .ok a g) (h2 : e2 ρ g = .ok b g) (h3 : o a b = some d) : opD o e1 e2 ρ g = .ok d g := by
  simp [h1, h2, h3]
theorem cut_lo (ds : List PyData) (k : Nat) (h : k ≤ ds.length) : cutP ds none (some (k : Int)) = ds.take k := by
  unfold cutP
  rw [HT.sIx_none, HT.sIx_nat, Nat.min_eq_left h]
  simp
theorem cut_hi (ds : List PyData) (k : Nat) (h : k ≤ ds.length) : cutP ds (some (k : Int)) none = ds.drop k := by
  unfold cutP
  rw [HT.sIx_none, HT.sIx_nat, Nat.min_eq_left h]
  rw [List.take_of_length_le (by rw [List.length_drop]; omega)]

theorem un_ok {o : PyData → Option PyData} {e : Ex} {a d : PyData} {ρ : Nv} {g : DL.G} (h1 : e ρ g = .ok a g) (h3 : o a = some d) : unD o e ρ g = .ok d g := by
  simp [h1, h3]
theorem bool_ok {e : Ex} {b : Bool} {ρ : Nv} {g : DL.G} (h : e ρ g = .ok (.bool b) g) : boolD e ρ g = .ok b g := by
  simp [h]
theorem tup_ok {es : Ar} {ds : List PyData} {ρ : Nv} {g : DL.G} (h : es ρ g = .ok ds g) (hl : ds.length ≤ 1000) : tupD es ρ g = .ok (.tuple ds) g := by
  simp [h, hl]
theorem le_cmp (a b : Int) : cmpD (fun i j => decide (i ≤ j)) (.int a) (.int b) = some (.bool (decide (a ≤ b))) := rfl

theorem all_find {α : Type} (f : α → Bool) (l : List α) : (l.find? fun x => !f x) = none → l.all f = true := fun h => by
  rw [List.all_eq_true]
  intro x hx
  have := List.find?_eq_none.mp h x hx
  simpa using this
theorem isTuple_any (ds : List PyData) (k : Int) (g : DL.G) : m_is_tuple [.tuple ds, .int k] g = .ok (.bool (decide ((ds.length : Int) = k))) g := by
  by_cases h : (ds.length : Int) = k <;> simp [m_is_tuple, b_is_tuple, isT, eqD, h]
theorem set_ok {i : Nat} {e : Ex} {d : PyData} {ρ : Nv} {g g' : DL.G} (h : e ρ g = .ok d g') : setS i e ρ g = .nx (ρ.set i (.sh d)) g' := by
  unfold setS stE
  rw [h]
theorem shut_eq {i : Nat} {b : Sm} {ds : List PyData} {ρ : Nv} {g : DL.G} (h : ρ[i]? = some (.ow (.lst ds))) : shutS i b ρ g = b (ρ.set i (.sh (.list ds))) g := by
  unfold shutS
  rw [h]
theorem fill_one (d : PyData) (n : Nat) : (List.replicate n [d]).flatten = List.replicate n d := by
  induction n with
  | zero => rfl
  | succ n ih => rw [List.replicate_succ, List.flatten_cons, ih]; rfl
theorem mul_list (d : PyData) (n : Nat) (hn : n ≤ 1000) : mulD (.list [d]) (.int (n : Int)) = some (.list (List.replicate n d)) := by
  show (if -1000000 ≤ (n : Int) ∧ (n : Int) ≤ 1000000 ∧ [d].length * ((n : Int)).toNat ≤ big then some (PyData.list (List.replicate ((n : Int)).toNat [d]).flatten) else none) = _
  rw [if_pos ⟨by omega, by omega, by show 1 * ((n : Int)).toNat ≤ 1000000; omega⟩, show ((n : Int)).toNat = n by omega, fill_one]
theorem mul_tup (d : PyData) (n : Nat) (h1 : 1 ≤ n) (hn : n ≤ 1000) : mulD (.tuple [d]) (.int (n : Int)) = some (.tuple (List.replicate n d)) := by
  show (if (n : Int) = 1 then some (PyData.tuple [d]) else if [d] ≠ [] ∧ 2 ≤ (n : Int) ∧ (n : Int) ≤ 1000 ∧ [d].length ≤ 1000 then some (PyData.tuple (List.replicate ((n : Int)).toNat [d]).flatten) else none) = _
  by_cases h : n = 1
  · subst h; rfl
  · rw [if_neg (by omega), if_pos ⟨by simp, by omega, by omega, by show 1 ≤ 1000; omega⟩, show ((n : Int)).toNat = n by omega, fill_one]
theorem mul_ex {e1 e2 : Ex} {d : PyData} {n : Nat} {ρ : Nv} {g : DL.G} (h1 : e1 ρ g = .ok (.list [d]) g) (h2 : e2 ρ g = .ok (.int (n : Int)) g) (hn : n ≤ 1000) : opD mulD e1 e2 ρ g = .ok (.list (List.replicate n d)) g := op_ok h1 h2 (mul_list d n hn)
theorem addT (a b : List PyData) (h : a.length + b.length ≤ 1000000) : addD (.tuple a) (.tuple b) = some (.tuple (a ++ b)) := by
  exact if_pos h
theorem addL (a b : List PyData) (h : a.length + b.length ≤ 1000000) : addD (.list a) (.list b) = some (.list (a ++ b)) := by
  exact if_pos h
theorem lst_ok {es : Ar} {ds : List PyData} {ρ : Nv} {g : DL.G} (h : es ρ g = .ok ds g) (hl : ds.length ≤ 1000) : lstO es ρ g = .ok (.lst ds) g := by
  simp [h, hl]
theorem share_ok {f : Ow} {ds : List PyData} {ρ : Nv} {g : DL.G} (h : f ρ g = .ok (.lst ds) g) : shareO f ρ g = .ok (.list ds) g := by
  simp [h]
abbrev strD (s : String) : PyData := .str (PySem.Str.ofString s)
theorem drawM {ms : List Int} {g : G} (hg : Dr ms g) {n : Int} (hn : 0 < n) : ∃ (r : Int) (g' : G), 0 ≤ r % n ∧ r % n < n ∧ m_law_draw [] g = .ok (.int r) g' ∧ Dr ms g' := by
  obtain ⟨r, g', h, hg'⟩ := draw_any hg
  exact ⟨r, g', (md_bd hn).1, (md_bd hn).2, h, hg'⟩
end K

set_option Elab.async false
set_option linter.all false
set_option maxRecDepth 100000
set_option maxHeartbeats 400000
namespace K
open PySem DL PyProof.Rows
/-! ### fractions -/
def encQ (q : Rat) : PyData := .tuple [.int q.num, .int (q.den : Int)]
theorem encQ_inj {a b : Rat} (h : encQ a = encQ b) : a = b := by
  unfold encQ at h
  injection h with h
  injection h with h1 h2
  injection h2 with h2 _
  injection h1 with h1
  injection h2 with h2
  exact Rat.ext h1 (by omega)
theorem mod_int {r n : Int} (h : 0 < n) : modD (.int r) (.int n) = some (.int (r % n)) := by simp [h]
/-- the loop of Euclid -/
theorem gcd_loop (c : Te) (g : DL.G) (rest : Nv) (hc : ∀ a b : Nat, c (.sh (.int (a : Int)) :: .sh (.int (b : Int)) :: rest) g = .ok (decide (0 < b)) g) : ∀ (b a : Nat), ∃ n, whileN c (parS 0 1 (varD 1) (opD modD (varD 0) (varD 1))) n (.sh (.int (a : Int)) :: .sh (.int (b : Int)) :: rest) g = .nx (.sh (.int ((Nat.gcd a b : Nat) : Int)) :: .sh (.int 0) :: rest) g := by
  intro b
  induction b using Nat.strongRecOn with
  | _ b ih =>
    intro a
    by_cases hb : b = 0
    · subst hb
      refine ⟨1, ?_⟩
      unfold whileN
      rw [hc a 0]
      rw [Nat.gcd_zero_right]
      rfl
    · have hp : 0 < b := Nat.pos_of_ne_zero hb
      obtain ⟨n, hn⟩ := ih (a % b) (Nat.mod_lt _ hp) b
      refine ⟨n + 1, ?_⟩
      unfold whileN
      rw [hc a b, decide_eq_true hp]
      have e : parS 0 1 (varD 1) (opD modD (varD 0) (varD 1)) (.sh (.int (a : Int)) :: .sh (.int (b : Int)) :: rest) g = .nx (.sh (.int (b : Int)) :: .sh (.int ((a % b : Nat) : Int)) :: rest) g := by
        have h1 : modD (.int (a : Int)) (.int (b : Int)) = some (.int ((a % b : Nat) : Int)) := md (by omega)
        generalize modD = M at h1 ⊢
        simp [h1]
      simp only [e]
      rw [hn, Nat.gcd_comm b (a % b), Nat.gcd_comm a b, ← Nat.gcd_rec]
theorem divisor_ok (p q : Int) (g : DL.G) : m_divisor [.int p, .int q] g = .ok (.int ((Nat.gcd p.natAbs q.natAbs : Nat) : Int)) g := by
  obtain ⟨n, hn⟩ := gcd_loop (boolD (opD (cmpD fun i j => decide (j < i)) (varD 1) (constD (.int 0)))) g [] (fun a b => by simp) q.natAbs p.natAbs
  have hw := whileS_eq hn (by intro h; cases h)
  have hb : b_divisor [.sh (.int p), .sh (.int q)] g = .rt (.int ((Nat.gcd p.natAbs q.natAbs : Nat) : Int)) g := by
    unfold b_divisor
    refine (seq_eq (ρ1 := [.sh (.int (p.natAbs : Int)), .sh (.int (q.natAbs : Int))]) (g1 := g) ?_).trans ?_
    · have h : ∀ x : Int, (if x < 0 then -x else x) = (x.natAbs : Int) := fun x => by
        split <;> omega
      simp [h]
    refine (seq_eq hw).trans ?_
    rfl
  unfold m_divisor fnD
  show (match b_divisor [.sh (.int p), .sh (.int q)] g with | .nx _ g1 => R.ok PyData.none g1 | .rt d g1 => .ok d g1 | .ex k _ g1 => .ex k g1 | _ => .bad) = _
  rw [hb]
theorem lawDivisor_ok (p q : Nat) (g : DL.G) : m_law_divisor [.int (p : Int), .int (q : Int)] g = .ok (.int ((Nat.gcd p q : Nat) : Int)) g := by
  obtain ⟨n, hn⟩ := gcd_loop (boolD (opD neD (varD 1) (constD (.int 0)))) g [] (fun a b => by
    by_cases h : b = 0
    · subst h; simp [neD, eqD]
    · have h1 : decide ((b : Int) = 0) = false := decide_eq_false (by omega)
      have h2 : decide (0 < b) = true := decide_eq_true (by omega)
      have h3 : neD (.int (b : Int)) (.int 0) = some (.bool true) := by
        show (match (some (PyData.bool (decide ((b : Int) = 0)))) with | some (.bool b) => some (PyData.bool (!b)) | _ => none) = _
        rw [h1]; rfl
      rw [h2]
      simp [h3]) q p
  have hw := whileS_eq hn (by intro h; cases h)
  have hb : b_law_divisor [.sh (.int (p : Int)), .sh (.int (q : Int))] g = .rt (.int ((Nat.gcd p q : Nat) : Int)) g := by
    unfold b_law_divisor
    refine (seq_eq hw).trans ?_
    rfl
  unfold m_law_divisor fnD
  show (match b_law_divisor [.sh (.int (p : Int)), .sh (.int (q : Int))] g with | .nx _ g1 => R.ok PyData.none g1 | .rt d g1 => .ok d g1 | .ex k _ g1 => .ex k g1 | _ => .bad) = _
  rw [hb]
theorem fdiv_wide (i j : Int) (h0 : 0 < j) (h : j.natAbs.log2 < 9000) : fdivW (.int i) (.int j) = some (.int (i / j)) := by
  exact if_pos ⟨h0, h⟩
theorem mul_wide (i j : Int) (h : i.natAbs.log2 + j.natAbs.log2 < 1000000) : mulW (.int i) (.int j) = some (.int (i * j)) := by
  exact if_pos h
theorem log_lt {n k : Nat} (h : n < 2 ^ k) (hk : 0 < k) : n.log2 < k := by
  by_cases hn : n = 0
  · subst hn; simpa using hk
  · exact (Nat.log2_lt hn).mpr h
/-- small enough -/
structure Bd (q : Rat) : Prop where
  n : q.num.natAbs < 2 ^ 4000
  d : q.den < 2 ^ 4000
theorem mk_num (p : Int) (q : Nat) (hq : q ≠ 0) : (mkRat p q).num = p / ((Nat.gcd p.natAbs q : Nat) : Int) := by
  rw [Rat.num_mkRat, if_neg hq, Nat.gcd_comm]
theorem mk_den (p : Int) (q : Nat) (hq : q ≠ 0) : (((mkRat p q).den : Nat) : Int) = (q : Int) / ((Nat.gcd p.natAbs q : Nat) : Int) := by
  rw [Rat.den_mkRat, if_neg hq, Nat.gcd_comm]
  rfl
theorem fraction_ok (p : Int) (q : Nat) (hq : 0 < q) (hl : q < 2 ^ 8500) (g : DL.G) : m_fraction [.int p, .int (q : Int)] g = .ok (encQ (mkRat p q)) g := by
  have h1 := divisor_ok p (q : Int) g
  rw [Int.natAbs_natCast] at h1
  have hg : 0 < Nat.gcd p.natAbs q := Nat.gcd_pos_of_pos_right _ hq
  have hle : Nat.gcd p.natAbs q ≤ q := Nat.le_of_dvd hq (Nat.gcd_dvd_right _ _)
  have hlog : ((Nat.gcd p.natAbs q : Nat) : Int).natAbs.log2 < 9000 := by
    rw [Int.natAbs_natCast]
    exact Nat.lt_trans (log_lt (Nat.lt_of_le_of_lt hle hl) (by decide)) (by decide)
  have f1 := fdiv_wide p ((Nat.gcd p.natAbs q : Nat) : Int) (by omega) hlog
  have f2 := fdiv_wide (q : Int) ((Nat.gcd p.natAbs q : Nat) : Int) (by omega) hlog
  have e : encQ (mkRat p q) = .tuple [.int (p / ((Nat.gcd p.natAbs q : Nat) : Int)), .int ((q : Int) / ((Nat.gcd p.natAbs q : Nat) : Int))] := by
    unfold encQ
    rw [mk_num p q (by omega), mk_den p q (by omega)]
  rw [e]
  have hp : (0 : Int) < (q : Int) := by omega
  generalize ((Nat.gcd p.natAbs q : Nat) : Int) = c at h1 f1 f2 ⊢
  generalize (q : Int) = q' at h1 f2 hp ⊢
  generalize p / c = z1 at f1 ⊢
  generalize q' / c = z2 at f2 ⊢
  unfold m_fraction b_fraction
  generalize fdivW = M at f1 f2 ⊢
  simp [h1, hp, f1, f2]
theorem lawPart_ok (p : Int) (q : Nat) (hq : 0 < q) (hl : q < 2 ^ 8500) (g : DL.G) : m_law_part [.int p, .int (q : Int)] g = .ok (encQ (mkRat p q)) g := by
  have h1 := lawDivisor_ok p.natAbs q g
  have hg : 0 < Nat.gcd p.natAbs q := Nat.gcd_pos_of_pos_right _ hq
  have hle : Nat.gcd p.natAbs q ≤ q := Nat.le_of_dvd hq (Nat.gcd_dvd_right _ _)
  have hlog : ((Nat.gcd p.natAbs q : Nat) : Int).natAbs.log2 < 9000 := by
    rw [Int.natAbs_natCast]
    exact Nat.lt_trans (log_lt (Nat.lt_of_le_of_lt hle hl) (by decide)) (by decide)
  have f1 := fdiv_wide p ((Nat.gcd p.natAbs q : Nat) : Int) (by omega) hlog
  have f2 := fdiv_wide (q : Int) ((Nat.gcd p.natAbs q : Nat) : Int) (by omega) hlog
  have e : encQ (mkRat p q) = .tuple [.int (p / ((Nat.gcd p.natAbs q : Nat) : Int)), .int ((q : Int) / ((Nat.gcd p.natAbs q : Nat) : Int))] := by
    unfold encQ
    rw [mk_num p q (by omega), mk_den p q (by omega)]
  rw [e]
  have hp : ¬ ((q : Int) < 0) := by omega
  have ha : (if p < 0 then -p else p) = (p.natAbs : Int) := by split <;> omega
  generalize ((Nat.gcd p.natAbs q : Nat) : Int) = c at h1 f1 f2 ⊢
  generalize (q : Int) = q' at h1 f2 hp ⊢
  generalize p / c = z1 at f1 ⊢
  generalize q' / c = z2 at f2 ⊢
  unfold m_law_part b_law_part
  generalize fdivW = M at f1 f2 ⊢
  simp [ha, h1, hp, f1, f2]
theorem pow_split (a b : Nat) : (2 : Nat) ^ (a + b) = 2 ^ a * 2 ^ b := Nat.pow_add 2 a b
theorem mul_log {i j : Int} (hi : i.natAbs < 2 ^ 4000) (hj : j.natAbs < 2 ^ 4000) : i.natAbs.log2 + j.natAbs.log2 < 1000000 := by
  have a := log_lt hi (by decide)
  have b := log_lt hj (by decide)
  omega
theorem den_mul_lt {a b : Nat} (ha : a < 2 ^ 4000) (hb : b < 2 ^ 4000) : a * b < 2 ^ 8500 := by
  have h : a * b < 2 ^ 4000 * 2 ^ 4000 := Nat.mul_lt_mul'' ha hb
  rw [← pow_split] at h
  exact Nat.lt_of_lt_of_le h (Nat.pow_le_pow_right (by decide) (by decide))
theorem ops_ok {a b : Rat} (ha : Bd a) (hb : Bd b) (g : DL.G) : m_plus [encQ a, encQ b] g = .ok (encQ (a + b)) g ∧ m_times [encQ a, encQ b] g = .ok (encQ (a * b)) g ∧ m_law_plus [encQ a, encQ b] g = .ok (encQ (a + b)) g ∧ m_law_times [encQ a, encQ b] g = .ok (encQ (a * b)) g := by
  have na : ((a.den : Nat) : Int).natAbs < 2 ^ 4000 := by rw [Int.natAbs_natCast]; exact ha.d
  have nb : ((b.den : Nat) : Int).natAbs < 2 ^ 4000 := by rw [Int.natAbs_natCast]; exact hb.d
  have m1 := mul_wide a.num (b.den : Int) (mul_log ha.n nb)
  have m2 := mul_wide b.num (a.den : Int) (mul_log hb.n na)
  have m3 := mul_wide (a.den : Int) (b.den : Int) (mul_log na nb)
  have m4 := mul_wide a.num b.num (mul_log ha.n hb.n)
  have hpos : 0 < a.den * b.den := Nat.mul_pos a.den_pos b.den_pos
  have hlt := den_mul_lt ha.d hb.d
  have e1 : a + b = mkRat (a.num * b.den + b.num * a.den) (a.den * b.den) := by rw [Rat.add_def, Rat.normalize_eq_mkRat]
  have e2 : a * b = mkRat (a.num * b.num) (a.den * b.den) := by rw [Rat.mul_def, Rat.normalize_eq_mkRat]
  have f1 := fraction_ok (a.num * b.den + b.num * a.den) (a.den * b.den) hpos hlt g
  have f2 := fraction_ok (a.num * b.num) (a.den * b.den) hpos hlt g
  have f3 := lawPart_ok (a.num * b.den + b.num * a.den) (a.den * b.den) hpos hlt g
  have f4 := lawPart_ok (a.num * b.num) (a.den * b.den) hpos hlt g
  rw [← e1] at f1 f3
  rw [← e2] at f2 f4
  rw [Int.natCast_mul] at f1 f2 f3 f4
  generalize encQ (a + b) = z1 at f1 f3 ⊢
  generalize encQ (a * b) = z2 at f2 f4 ⊢
  unfold encQ
  generalize a.num * (b.den : Int) = p1 at m1 f1 f3
  generalize b.num * (a.den : Int) = p2 at m2 f1 f3
  generalize (a.den : Int) * (b.den : Int) = p3 at m3 f1 f2 f3 f4
  generalize a.num * b.num = p4 at m4 f2 f4
  generalize a.num = an at m1 m4 ⊢
  generalize b.num = bn at m2 m4 ⊢
  generalize (a.den : Int) = ad at m2 m3 ⊢
  generalize (b.den : Int) = bd at m1 m3 ⊢
  generalize hM : mulW = M at m1 m2 m3 m4
  refine ⟨?_, ?_, ?_, ?_⟩
  · unfold m_plus b_plus; rw [hM]; simp [m1, m2, m3, f1]
  · unfold m_times b_times; rw [hM]; simp [m4, m3, f2]
  · unfold m_law_plus b_law_plus; rw [hM]; simp [m1, m2, m3, f3]
  · unfold m_law_times b_law_times; rw [hM]; simp [m4, m3, f4]
end K

set_option Elab.async false
set_option linter.all false
set_option maxRecDepth 100000
set_option maxHeartbeats 400000
namespace K
open PySem DL PyProof.Rows
/-! ### sizes of fractions -/
def Sz (D M : Nat) (q : Rat) : Prop := ∃ m : Int, q = mkRat m D ∧ m.natAbs ≤ M
theorem Sz.add {D M N : Nat} {a b : Rat} (hD : 0 < D) (ha : Sz D M a) (hb : Sz D N b) : Sz D (M + N) (a + b) := by
  obtain ⟨m, rfl, hm⟩ := ha
  obtain ⟨n, rfl, hn⟩ := hb
  refine ⟨m + n, ?_, by omega⟩
  rw [Rat.mkRat_add_mkRat _ _ (by omega) (by omega), ← Int.add_mul, Rat.mkRat_mul_right (by omega)]
theorem Sz.mul {D E M N : Nat} {a b : Rat} (ha : Sz D M a) (hb : Sz E N b) : Sz (D * E) (M * N) (a * b) := by
  obtain ⟨m, rfl, hm⟩ := ha
  obtain ⟨n, rfl, hn⟩ := hb
  exact ⟨m * n, Rat.mkRat_mul_mkRat _ _ _ _, by rw [Int.natAbs_mul]; exact Nat.mul_le_mul hm hn⟩
theorem Sz.lift {D M : Nat} {a : Rat} (E : Nat) (hE : 0 < E) (ha : Sz D M a) : Sz (D * E) (M * E) a := by
  obtain ⟨m, rfl, hm⟩ := ha
  refine ⟨m * E, (Rat.mkRat_mul_right (by omega)).symm, ?_⟩
  rw [Int.natAbs_mul, Int.natAbs_natCast]
  exact Nat.mul_le_mul_right _ hm
theorem Sz.mono {D M N : Nat} {a : Rat} (h : M ≤ N) (ha : Sz D M a) : Sz D N a := by
  obtain ⟨m, e, hm⟩ := ha
  exact ⟨m, e, Nat.le_trans hm h⟩
theorem Sz.zero (D M : Nat) : Sz D M 0 := ⟨0, (Rat.zero_mkRat D).symm, Nat.zero_le _⟩
theorem Sz.int (a : Int) : Sz 1 a.natAbs (a : Rat) := ⟨a, (Rat.mkRat_one a).symm, Nat.le_refl _⟩
theorem Sz.bd {D M : Nat} {a : Rat} (hD : 0 < D) (hd : D < 2 ^ 4000) (hm : M < 2 ^ 4000) (ha : Sz D M a) : Bd a := by
  obtain ⟨m, rfl, h⟩ := ha
  have hg : 0 < Nat.gcd m.natAbs D := Nat.gcd_pos_of_pos_right _ hD
  constructor
  · have e := mk_num m D (by omega)
    have hdv : ((Nat.gcd m.natAbs D : Nat) : Int) ∣ m := Int.ofNat_dvd_left.mpr (Nat.gcd_dvd_left _ _)
    have e2 : (mkRat m D).num * ((Nat.gcd m.natAbs D : Nat) : Int) = m := by rw [e]; exact Int.ediv_mul_cancel hdv
    have e3 := congrArg Int.natAbs e2
    rw [Int.natAbs_mul, Int.natAbs_natCast] at e3
    have : (mkRat m D).num.natAbs * 1 ≤ (mkRat m D).num.natAbs * Nat.gcd m.natAbs D := Nat.mul_le_mul_left _ hg
    rw [e3, Nat.mul_one] at this
    exact Nat.lt_of_le_of_lt (Nat.le_trans this h) hm
  · have : (mkRat m D).den ≤ D := by
      rw [Rat.den_mkRat, if_neg (by omega)]
      exact Nat.div_le_self _ _
    exact Nat.lt_of_le_of_lt this hd
/-- all numbers up to 20 part it -/
abbrev Lc : Nat := 232792560
theorem lc_dvd {d : Nat} (h1 : 1 ≤ d) (h2 : d ≤ 20) : d ∣ Lc := by
  have : ∀ d, d < 21 → 1 ≤ d → d ∣ Lc := by decide
  exact this d (by omega) h1
structure Share (q : Rat) : Prop where
  n1 : 1 ≤ q.num
  n2 : q.num ≤ (q.den : Int)
  d : q.den ≤ 20
theorem Share.sz {q : Rat} (h : Share q) : Sz Lc Lc q := by
  obtain ⟨e, he⟩ := lc_dvd q.den_pos h.d
  have e0 : e ≠ 0 := fun z => by subst z; simp [Lc] at he
  refine ⟨q.num * (e : Int), ?_, ?_⟩
  · rw [he, Rat.mkRat_mul_right e0]
    exact (Rat.mkRat_self q).symm
  · rw [Int.natAbs_mul, Int.natAbs_natCast]
    have n1 := h.n1
    have n2 := h.n2
    have : q.num.natAbs ≤ q.den := by omega
    rw [he]
    exact Nat.mul_le_mul_right _ this
theorem Share.bd {q : Rat} (h : Share q) : Bd q := by
  have n1 := h.n1
  have n2 := h.n2
  have d := h.d
  have b : (21 : Nat) ≤ 2 ^ 4000 := Nat.le_trans (show 21 ≤ 2 ^ 5 by decide) (Nat.pow_le_pow_right (by decide) (by decide))
  exact ⟨by omega, by omega⟩
theorem big_bd : (2 : Nat) ^ 100 < 2 ^ 4000 := Nat.pow_lt_pow_right (by decide) (by decide)
/-- sums -/
def sumQ : List Rat → Rat
  | [] => 0
  | a :: l => a + sumQ l
theorem sumQ_fold : ∀ (l : List Rat) (a : Rat), l.foldl (· + ·) a = a + sumQ l
  | [], a => (Rat.add_zero a).symm
  | b :: l, a => by
    rw [List.foldl_cons, sumQ_fold l (a + b), Rat.add_assoc]
    rfl
theorem sumQ_app (l r : List Rat) : sumQ (l ++ r) = sumQ l + sumQ r := by
  induction l with
  | nil => exact (Rat.zero_add _).symm
  | cons a l ih =>
    show a + sumQ (l ++ r) = a + sumQ l + sumQ r
    rw [ih, Rat.add_assoc]
theorem sumQ_perm {l r : List Rat} (h : l.Perm r) : sumQ l = sumQ r := by
  induction h with
  | nil => rfl
  | cons a _ ih => show a + _ = a + _; rw [ih]
  | swap a b l =>
    show b + (a + sumQ l) = a + (b + sumQ l)
    rw [Rat.add_left_comm]
  | trans _ _ h1 h2 => rw [h1, h2]
theorem sum_loop (g : DL.G) : ∀ (l : List Rat) (a : Rat) (M : Nat), Sz Lc M a → M + l.length * Lc < 2 ^ 100 → (∀ q ∈ l, Share q) → ∀ x0 x2, ∃ y2, forD (nameT 2) (setS 1 (callD 2 m_plus (consD (varD 1) (consD (varD 2) nilD)))) (l.map encQ) [x0, .sh (encQ a), x2] g = .nx [x0, .sh (encQ (a + sumQ l)), y2] g
  | [], a, M, _, _, _, x0, x2 => ⟨x2, by rw [show a + sumQ [] = a from Rat.add_zero a]; rfl⟩
  | q :: l, a, M, ha, hb, hq, x0, x2 => by
    have hs := hq q List.mem_cons_self
    have hM : M < 2 ^ 4000 := by
      have := big_bd
      omega
    have hLc : Lc < 2 ^ 4000 := by
      have := big_bd
      have h2 : Lc < 2 ^ 100 := by decide
      omega
    have hp := (ops_ok (ha.bd (by decide) hLc hM) hs.bd g).1
    have hl : M + Lc + l.length * Lc < 2 ^ 100 := by
      rw [List.length_cons, Nat.add_mul] at hb
      omega
    obtain ⟨y2, ih⟩ := sum_loop g l (a + q) (M + Lc) (ha.add (by decide) hs.sz) hl (fun z hz => hq z (List.mem_cons_of_mem _ hz)) x0 (.sh (encQ q))
    refine ⟨y2, ?_⟩
    rw [List.map_cons]
    unfold forD
    have e1 : nameT 2 (encQ q) [x0, .sh (encQ a), x2] = some [x0, .sh (encQ a), .sh (encQ q)] := rfl
    have e2 : setS 1 (callD 2 m_plus (consD (varD 1) (consD (varD 2) nilD))) [x0, .sh (encQ a), .sh (encQ q)] g = .nx [x0, .sh (encQ (a + q)), .sh (encQ q)] g := by
      generalize encQ (a + q) = z at hp ⊢
      generalize encQ a = z1 at hp ⊢
      generalize encQ q = z2 at hp ⊢
      simp [hp]
    rw [e1]
    simp only [e2]
    rw [ih, Rat.add_assoc]
    rfl
theorem sumOf_ok (l : List Rat) (hl : l.length ≤ 1000) (hq : ∀ q ∈ l, Share q) (g : DL.G) : m_sum_of [.list (l.map encQ)] g = .ok (encQ (sumQ l)) g := by
  obtain ⟨y2, h⟩ := sum_loop g l 0 0 (Sz.zero _ _) (by
    have h1 : l.length * Lc ≤ 1000 * Lc := Nat.mul_le_mul_right _ hl
    have h2 : 1000 * Lc < 2 ^ 100 := by decide
    omega) hq (.sh (.list (l.map encQ))) .no
  rw [Rat.zero_add] at h
  have hb : b_sum_of [.sh (.list (l.map encQ)), .no, .no] g = .rt (encQ (sumQ l)) g := by
    unfold b_sum_of
    refine (seq_eq (ρ1 := [.sh (.list (l.map encQ)), .sh (encQ 0), .no]) (g1 := g) ?_).trans ?_
    · generalize l.map encQ = D
      simp [encQ]
    refine (seq_eq (for_run (g1 := g) (by simp) h)).trans ?_
    rfl
  unfold m_sum_of fnD
  show (match b_sum_of [.sh (.list (l.map encQ)), .no, .no] g with | .nx _ g1 => R.ok PyData.none g1 | .rt d g1 => .ok d g1 | .ex k _ g1 => .ex k g1 | _ => .bad) = _
  rw [hb]
end K

set_option Elab.async false
set_option linter.all false
set_option maxRecDepth 100000
set_option maxHeartbeats 400000
namespace K
open PySem DL PyProof.Rows
/-! ### lotteries -/
abbrev W4 := Nat × Nat × Int × Rat
abbrev natD (k : Nat) : PyData := .int (k : Int)
def encW4 (w : W4) : PyData := .tuple [.int (w.1 : Int), .int (w.2.1 : Int), .int w.2.2.1, encQ w.2.2.2]
abbrev owD (os : List Int) : PyData := .tuple (os.map PyData.int)
abbrev wyD (ws : List W4) : PyData := .tuple (ws.map encW4)
def encL (os : List Int) (ws : List W4) : PyData := .tuple [owD os, wyD ws]
abbrev w0 : W4 := (0, 0, 0, 0)
def chs (ws : List W4) (r : Nat) : List Nat := (List.range ws.length).filter fun k => decide ((((ws[k]?.getD w0).1 : Nat) : Int) = (r : Int))
def sumR (ws : List W4) (r : Nat) : Rat := sumQ ((ws.filter fun w => decide ((w.1 : Int) = (r : Int))).map fun w => w.2.2.2)
structure Vl (os : List Int) (ws : List W4) : Prop where
  n1 : 1 ≤ os.length
  n2 : os.length ≤ 8
  o : ∀ x ∈ os, x = 0 ∨ x = 2
  l1 : 1 ≤ ws.length
  l2 : ws.length ≤ 24
  w : ∀ w ∈ ws, w.1 < os.length ∧ w.2.1 < os.length ∧ -8 ≤ w.2.2.1 ∧ w.2.2.1 ≤ 8
  q : ∀ w ∈ ws, Share w.2.2.2
  z : ∀ w ∈ ws, os[w.1]?.getD 0 = 2 ∨ w.2.2.2 = 1
  r : ∀ r, r < os.length → ∃ w ∈ ws, w.1 = r
  s : ∀ r, r < os.length → os[r]?.getD 0 = 2 → sumR ws r = 1
theorem range_get {α : Type} (d : α) (p : α → Bool) : ∀ l : List α, ((List.range l.length).filter fun k => p (l[k]?.getD d)).map (fun k => l[k]?.getD d) = l.filter p
  | [] => rfl
  | x :: l => by
    have ih := range_get d p l
    rw [List.length_cons, List.range_succ_eq_map, List.filter_cons]
    have e : ((List.range l.length).map Nat.succ).filter (fun k => p ((x :: l)[k]?.getD d)) = ((List.range l.length).filter fun k => p (l[k]?.getD d)).map Nat.succ := by
      rw [List.filter_map]
      rfl
    rw [e]
    have e2 : (((List.range l.length).filter fun k => p (l[k]?.getD d)).map Nat.succ).map (fun k => (x :: l)[k]?.getD d) = l.filter p := by
      rw [List.map_map]
      exact ih
    show List.map _ (if p x = true then _ else _) = _
    rw [List.filter_cons]
    by_cases hp : p x = true
    · rw [if_pos hp, if_pos hp, List.map_cons, e2]
      rfl
    · rw [if_neg hp, if_neg hp, e2]
theorem chs_share (ws : List W4) (r : Nat) : sumQ ((chs ws r).map fun k => (ws[k]?.getD w0).2.2.2) = sumR ws r := by
  unfold chs sumR
  rw [← range_get w0 (fun w => decide ((w.1 : Int) = (r : Int))) ws, List.map_map]
  rfl
theorem chs_mem {ws : List W4} {r k : Nat} : k ∈ chs ws r ↔ ∃ w, ws[k]? = some w ∧ w.1 = r := by
  unfold chs
  rw [List.mem_filter, List.mem_range]
  constructor
  · rintro ⟨h1, h2⟩
    have h2 := of_decide_eq_true h2
    rw [List.getElem?_eq_getElem h1] at h2
    exact ⟨_, List.getElem?_eq_getElem h1, by have h2 : ((ws[k].1 : Nat) : Int) = (r : Int) := h2; omega⟩
  · rintro ⟨w, h1, h2⟩
    have hl := (List.getElem?_eq_some_iff.mp h1).1
    refine ⟨hl, decide_eq_true ?_⟩
    rw [h1]
    show ((w.1 : Nat) : Int) = _
    rw [h2]
theorem chs_len (ws : List W4) (r : Nat) : (chs ws r).length ≤ ws.length := by
  have := List.length_filter_le (fun k => decide ((((ws[k]?.getD w0).1 : Nat) : Int) = (r : Int))) (List.range ws.length)
  rw [List.length_range] at this
  exact this
theorem Vl.ne {os : List Int} {ws : List W4} (V : Vl os ws) {r : Nat} (hr : r < os.length) : chs ws r ≠ [] := by
  obtain ⟨w, hw, e⟩ := V.r r hr
  obtain ⟨k, hk, rfl⟩ := List.getElem_of_mem hw
  exact List.ne_nil_of_mem (chs_mem.mpr ⟨_, List.getElem?_eq_getElem hk, e⟩)
theorem placesB {os : List Int} {ws : List W4} (hl : ws.length ≤ 24) (r : Nat) (g : DL.G) : shareO (lcO (rangeD (unD lenD (opD ixD (varD 0) (constD (.int 1))))) [2] (nameT 2) (boolD (opD eqD (opD ixD (opD ixD (opD ixD (varD 0) (constD (.int 1))) (varD 2)) (constD (.int 0))) (varD 1))) (varD 2)) [.sh (encL os ws), .sh (.int (r : Int)), .no] g = .ok (.list ((chs ws r).map natD)) g := by
  have h1 := compD_pure (t := nameT 2) (cond := boolD (opD eqD (opD ixD (opD ixD (opD ixD (varD 0) (constD (.int 1))) (varD 2)) (constD (.int 0))) (varD 1))) (elt := varD 2) (fun k : Nat => PyData.int (0 + (k : Int))) (fun k => decide ((((ws[k]?.getD w0).1 : Nat) : Int) = (r : Int))) natD (List.range ws.length) [.sh (encL os ws), .sh (.int (r : Int)), .no] g fun k hk => ⟨_, rfl, by
    have hk2 := List.mem_range.mp hk
    have e1 := ix_map encW4 ws k ws[k] (List.getElem?_eq_getElem hk2)
    rw [List.getElem?_eq_getElem hk2]
    simp [encL, e1, encW4, eqD], fun _ => by simp⟩
  rw [← upFrom_map] at h1
  have b : ((ws.length : Nat) : Int) ≤ 1000000 ∧ -1000000 ≤ ((ws.length : Nat) : Int) := by omega
  have b2 : ws.length ≤ 1000000 := by omega
  have b3 : ((List.range ws.length).filter fun k => decide ((((ws[k]?.getD w0).1 : Nat) : Int) = (r : Int))).length ≤ 1000000 := Nat.le_trans (List.length_filter_le _ _) (by rw [List.length_range]; exact b2)
  unfold chs
  generalize (List.range ws.length).filter _ = L at h1 b3 ⊢
  unfold encL at h1 ⊢
  generalize (boolD (opD eqD (opD ixD (opD ixD (opD ixD (varD 0) (constD (.int 1))) (varD 2)) (constD (.int 0))) (varD 1))) = C at h1 ⊢
  have b4 : (upFrom 0 ws.length).length ≤ 1000000 := by rw [upFrom_map, List.length_map, List.length_range]; exact b2
  simp [b, b2, b4, b3, big, h1]
theorem placesFrom_ok {os : List Int} {ws : List W4} (hl : ws.length ≤ 24) (r : Nat) (g : DL.G) : m_places_from [encL os ws, .int (r : Int)] g = .ok (.list ((chs ws r).map natD)) g := by
  have h := placesB (os := os) hl r g
  unfold m_places_from fnD b_places_from
  generalize shareO _ = E at h ⊢
  generalize encL os ws = A at h ⊢
  simp [h]
theorem lawPlaces_ok {os : List Int} {ws : List W4} (hl : ws.length ≤ 24) (r : Nat) (g : DL.G) : m_law_places [encL os ws, .int (r : Int)] g = .ok (.list ((chs ws r).map natD)) g := by
  have h := placesB (os := os) hl r g
  unfold m_law_places fnD b_law_places
  generalize shareO _ = E at h ⊢
  generalize encL os ws = A at h ⊢
  simp [h]
/-! ### shares -/
theorem isFraction_ok (p q : Int) (g : DL.G) : m_is_fraction [.tuple [.int p, .int q]] g = .ok (.bool (decide (0 < q) && decide (((Nat.gcd p.natAbs q.natAbs : Nat) : Int) = 1))) g := by
  have t := tuple_ok [.int p, .int q] 2 rfl g
  have d := divisor_ok p q g
  generalize ((Nat.gcd p.natAbs q.natAbs : Nat) : Int) = c at d ⊢
  have c1 := comp_none (i := 1) (cond := orT (notT (truthD (unD (isiD "int") (varD 1)))) (truthD (unD (isiD "bool") (varD 1)))) PyData.int [p, q] [.sh (.tuple [.int p, .int q]), .no] g fun x _ => by simp [isT]
  replace c1 : compD (nameT 1) (orT (notT (truthD (unD (isiD "int") (varD 1)))) (truthD (unD (isiD "bool") (varD 1)))) (varD 1) [.int p, .int q] [.sh (.tuple [.int p, .int q]), .no] g = .ok [] g := c1
  unfold m_is_fraction fnD b_is_fraction
  generalize (orT (notT (truthD (unD (isiD "int") (varD 1)))) (truthD (unD (isiD "bool") (varD 1)))) = C at c1 ⊢
  by_cases h : 0 < q
  · simp [t, c1, d, h, eqD, big]
  · simp [t, c1, d, h, eqD, big]
theorem isShare_ok (p q : Int) (g : DL.G) : m_is_share [.tuple [.int p, .int q]] g = .ok (.bool ((decide (0 < q) && decide (((Nat.gcd p.natAbs q.natAbs : Nat) : Int) = 1)) && (decide (1 ≤ p) && (decide (p ≤ q) && decide (q ≤ 20))))) g := by
  have f := isFraction_ok p q g
  generalize (decide (0 < q) && decide (((Nat.gcd p.natAbs q.natAbs : Nat) : Int) = 1)) = c at f ⊢
  cases c with
  | false => simp [m_is_share, b_is_share, f]
  | true =>
    by_cases h1 : 1 ≤ p
    · by_cases h2 : p ≤ q <;> simp [m_is_share, b_is_share, f, h1, h2]
    · simp [m_is_share, b_is_share, f, h1]
theorem share_true {q : Rat} (h : Share q) (g : DL.G) : m_is_share [encQ q] g = .ok (.bool true) g := by
  have := isShare_ok q.num (q.den : Int) g
  have n1 := h.n1
  have n2 := h.n2
  have d := h.d
  have r : Nat.gcd q.num.natAbs ((q.den : Nat) : Int).natAbs = 1 := by rw [Int.natAbs_natCast]; exact q.reduced
  rw [r, decide_eq_true (show (0 : Int) < (q.den : Int) by omega), decide_eq_true (show (1 : Int) ≤ q.num from n1), decide_eq_true n2, decide_eq_true (show (q.den : Int) ≤ 20 by omega)] at this
  exact this
theorem eq_pair (a b c d : Int) : eqD (.tuple [.int a, .int b]) (.tuple [.int c, .int d]) = some (.bool (decide (a = c) && decide (b = d))) := by
  show (if SeqAt.shaped (.tuple [.int a, .int b]) = true ∧ SeqAt.shaped (.tuple [.int c, .int d]) = true then some (PyData.bool (PyData.eqv (.tuple [.int a, .int b]) (.tuple [.int c, .int d]))) else none) = _
  have s : ∀ a b : Int, SeqAt.shaped (.tuple [.int a, .int b]) = true := fun a b => by
    simp [SeqAt.shaped, PyData.canLay0, PyData.canLayAll0, PyData.depth, PyData.depthAll]
  rw [if_pos ⟨s a b, s c d⟩]
  by_cases h1 : a = c <;> by_cases h2 : b = d <;> simp [PyData.eqv, PyData.eqvAll, h1, h2]
theorem eq_Q (a b : Rat) : eqD (encQ a) (encQ b) = some (.bool (decide (a = b))) := by
  unfold encQ
  rw [eq_pair]
  congr 2
  by_cases h : a = b
  · subst h; simp
  · rw [decide_eq_false h]
    by_cases h1 : a.num = b.num
    · have : ¬ ((a.den : Int) = (b.den : Int)) := fun z => h (Rat.ext h1 (by omega))
      simp [this]
    · simp [h1]
theorem enc1 : PyData.tuple [.int 1, .int 1] = encQ 1 := rfl
theorem enc0 : PyData.tuple [.int 0, .int 1] = encQ 0 := rfl
theorem ne_Q (a b : Rat) : neD (encQ a) (encQ b) = some (.bool (!decide (a = b))) := by
  unfold neD
  rw [eq_Q]
section
variable {os : List Int} {ws : List W4}
theorem wayOfX {w : W4} (h1 : w.1 < os.length) (h2 : w.2.1 < os.length) (h3 : -8 ≤ w.2.2.1) (h4 : w.2.2.1 ≤ 8) (hq : Share w.2.2.2) (hz : os[w.1]?.getD 0 = 2 ∨ w.2.2.2 = 1) (g : DL.G) : m_is_way_of [encW4 w, owD os] g = .ok (.bool true) g := by
  have t := tuple_ok [.int (w.1 : Int), .int (w.2.1 : Int), .int w.2.2.1, encQ w.2.2.2] 4 rfl g
  have a := within_ok (v := w.2.2.1) (a := -8) (b := 8) ⟨by omega, by omega⟩ g
  have b := within_ok (v := (w.1 : Int)) (a := 0) (b := (os.length : Int) - 1) ⟨by omega, by omega⟩ g
  have c := within_ok (v := (w.2.1 : Int)) (a := 0) (b := (os.length : Int) - 1) ⟨by omega, by omega⟩ g
  have s := share_true hq g
  have e1 := ix_map PyData.int os w.1 os[w.1] (List.getElem?_eq_getElem h1)
  have e3 : ixD (.tuple [.int (w.1 : Int), .int (w.2.1 : Int), .int w.2.2.1, encQ w.2.2.2]) (.int 3) = some (encQ w.2.2.2) := L2.atI_nat (j := 3) rfl
  have e2 : ixD (.tuple [.int (w.1 : Int), .int (w.2.1 : Int), .int w.2.2.1, encQ w.2.2.2]) (.int 2) = some (.int w.2.2.1) := L2.atI_nat (j := 2) rfl
  have e6 : eqD (encQ w.2.2.2) (.tuple [.int 1, .int 1]) = some (.bool (decide (w.2.2.2 = 1))) := eq_Q w.2.2.2 1
  rw [List.getElem?_eq_getElem h1] at hz
  have hz : os[w.1] = 2 ∨ w.2.2.2 = 1 := hz
  unfold encW4
  generalize encQ w.2.2.2 = Q at t s e3 e2 e6 ⊢
  rcases hz with hz | hz
  · have e5 : eqD (.int os[w.1]) (.int 2) = some (.bool true) := by simp [eqD, hz]
    simp [m_is_way_of, b_is_way_of, t, a, b, c, s, e1, e2, e3, e5]
  · rw [decide_eq_true hz] at e6
    have e5 : eqD (.int os[w.1]) (.int 2) = some (.bool (decide (os[w.1] = 2))) := rfl
    generalize decide (os[w.1] = 2) = k at e5
    cases k <;> simp [m_is_way_of, b_is_way_of, t, a, b, c, s, e1, e2, e3, e5, e6]
theorem wayOf_ok (V : Vl os ws) {w : W4} (hw : w ∈ ws) (g : DL.G) : m_is_way_of [encW4 w, owD os] g = .ok (.bool true) g := by
  obtain ⟨h1, h2, h3, h4⟩ := V.w w hw
  exact wayOfX h1 h2 h3 h4 (V.q w hw) (V.z w hw) g
end
end K

set_option Elab.async false
set_option linter.all false
set_option maxRecDepth 100000
set_option maxHeartbeats 400000
namespace K
open PySem DL PyProof.Rows
theorem seq_rt {a b : Sm} {ρ : Nv} {g g1 : DL.G} {d : PyData} (h : a ρ g = .rt d g1) : seqS a b ρ g = .rt d g1 := by unfold seqS; rw [h]
theorem fn_rt {n : Nat} {b : Sm} {ds : List PyData} {d : PyData} {g g1 : DL.G} (h : b (ds.map Sl.sh ++ List.replicate n .no) g = .rt d g1) : fnD n false b ds g = .ok d g1 := by
  unfold fnD
  show (match b (ds.map Sl.sh ++ List.replicate n .no) g with | .nx _ g1 => R.ok PyData.none g1 | .rt d g1 => .ok d g1 | .ex k _ g1 => .ex k g1 | _ => .bad) = _
  rw [h]
section
variable {os : List Int} {ws : List W4}
noncomputable abbrev sA : Sm := ifS (orT (notT (truthD (callD 2 m_is_tuple (consD (varD 0) (consD (constD (.int 2)) nilD))))) (orT (notT (truthD (unD (isiD "tuple") (opD ixD (varD 0) (constD (.int 0)))))) (notT (boolD (chainD (cmpD fun i j => decide (i ≤ j)) (cmpD fun i j => decide (i ≤ j)) (constD (.int 1)) (unD lenD (opD ixD (varD 0) (constD (.int 0)))) (constD (.int 8)))))))
  (retS (constD (.bool false)))
  nextS
noncomputable abbrev cC : Te := orT (notT (truthD (callD 3 m_is_within (consD (varD 5) (consD (constD (.int 0)) (consD (constD (.int 2)) nilD)))))) (boolD (opD eqD (varD 5) (constD (.int 1))))
noncomputable abbrev sC : Sm := ifS (truthD (shareO (lcO (itemsD (varD 2)) [5] (nameT 5) cC (varD 5))))
  (retS (constD (.bool false)))
  nextS
noncomputable abbrev sD : Sm := ifS (orT (notT (truthD (unD (isiD "tuple") (varD 3)))) (notT (boolD (chainD (cmpD fun i j => decide (i ≤ j)) (cmpD fun i j => decide (i ≤ j)) (constD (.int 1)) (unD lenD (varD 3)) (constD (.int 24))))))
  (retS (constD (.bool false)))
  nextS
noncomputable abbrev cE : Te := notT (truthD (callD 2 m_is_way_of (consD (varD 6) (consD (varD 2) nilD))))
noncomputable abbrev sE : Sm := ifS (truthD (shareO (lcO (itemsD (varD 3)) [6] (nameT 6) cE (varD 6))))
  (retS (constD (.bool false)))
  nextS
noncomputable abbrev xF : Ex := callD 1 m_sum_of (consD (shareO (lcO (itemsD (varD 4)) [7] (nameT 7) yesT (opD ixD (opD ixD (varD 3) (varD 7)) (constD (.int 3))))) nilD)
noncomputable abbrev tF : Sm := seqS (setS 4 (callD 2 m_places_from (consD (varD 0) (consD (varD 1) nilD))))
  (ifS (orT (notT (truthD (varD 4))) (andT (boolD (opD eqD (opD ixD (varD 2) (varD 1)) (constD (.int 2)))) (boolD (opD neD xF (tupD (consD (constD (.int 1)) (consD (constD (.int 1)) nilD)))))))
  (retS (constD (.bool false)))
  nextS)
noncomputable abbrev sF : Sm := forS (rangeD (unD lenD (varD 2))) (nameT 1) tF
theorem body_lot : b_is_lottery = seqS sA (seqS (asgS (varD 0) (tupT (consT (nameT 2) (consT (nameT 3) nilT)))) (seqS sC (seqS sD (seqS sE (seqS sF (retS (constD (.bool true)))))))) := rfl
theorem A_ok (xs : List PyData) (W : PyData) (h1 : 1 ≤ xs.length) (h8 : xs.length ≤ 8) (g : DL.G) : sA [.sh (.tuple [.tuple xs, W]), .no, .no, .no, .no, .no, .no, .no] g = .nx [.sh (.tuple [.tuple xs, W]), .no, .no, .no, .no, .no, .no, .no] g := by
  have t := tuple_ok [.tuple xs, W] 2 rfl g
  have b1 : (1 : Int) ≤ (xs.length : Int) := by omega
  have b2 : (xs.length : Int) ≤ 8 := by omega
  simp [t, isT, b1, b2]
theorem A_len (xs : List PyData) (W : PyData) (h : xs.length = 0 ∨ 8 < xs.length) (g : DL.G) : sA [.sh (.tuple [.tuple xs, W]), .no, .no, .no, .no, .no, .no, .no] g = .rt (.bool false) g := by
  have t := tuple_ok [.tuple xs, W] 2 rfl g
  rcases h with h | h
  · have b1 : ¬ ((1 : Int) ≤ (xs.length : Int)) := by omega
    simp [t, isT, b1]
  · have b1 : (1 : Int) ≤ (xs.length : Int) := by omega
    have b2 : ¬ ((xs.length : Int) ≤ 8) := by omega
    simp [t, isT, b1, b2]
theorem A_nt (O W : PyData) (h : isT "tuple" O = false) (g : DL.G) : sA [.sh (.tuple [O, W]), .no, .no, .no, .no, .no, .no, .no] g = .rt (.bool false) g := by
  have t := tuple_ok [O, W] 2 rfl g
  simp [t, h]
theorem A_not (d : PyData) (g : DL.G) (h : m_is_tuple [d, .int 2] g = .ok (.bool false) g) : sA [.sh d, .no, .no, .no, .no, .no, .no, .no] g = .rt (.bool false) g := by
  simp [h]
abbrev st8 (O W : PyData) (x1 x4 : Sl) : Nv := [.sh (.tuple [O, W]), x1, .sh O, .sh W, x4, .no, .no, .no]
theorem C_ok (W : PyData) (xs : List Int) (hx : ∀ x ∈ xs, x = 0 ∨ x = 2) (hl : xs.length ≤ 1000) (g : DL.G) : sC (st8 (.tuple (xs.map PyData.int)) W .no .no) g = .nx (st8 (.tuple (xs.map PyData.int)) W .no .no) g := by
  have c := comp_none (i := 5) (cond := cC) PyData.int xs (st8 (.tuple (xs.map PyData.int)) W .no .no) g fun x hxx => by
    have a := within_ok (v := x) (a := 0) (b := 2) (by rcases hx x hxx with rfl | rfl <;> decide) g
    have e : ¬ (x = 1) := by rcases hx x hxx with rfl | rfl <;> decide
    simp [a, eqD, e]
  have hb : xs.length ≤ 1000000 := by omega
  unfold sC
  generalize cC = C at c ⊢
  simp [hb, big, c]
theorem C_one (W : PyData) (xs : List Int) (hx : ∀ x ∈ xs, x = 0 ∨ x = 2) (hl : xs.length ≤ 1000) (g : DL.G) : sC (st8 (.tuple ((xs ++ [1]).map PyData.int)) W .no .no) g = .rt (.bool false) g := by
  have c := compD_pure (t := nameT 5) (cond := cC) (elt := varD 5) PyData.int (fun x => decide (x = 1)) PyData.int (xs ++ [1]) (st8 (.tuple ((xs ++ [1]).map PyData.int)) W .no .no) g fun x hxx => ⟨_, rfl, by
    rcases List.mem_append.mp hxx with h | h
    · have a := within_ok (v := x) (a := 0) (b := 2) (by rcases hx x h with rfl | rfl <;> decide) g
      have e : ¬ (x = 1) := by rcases hx x h with rfl | rfl <;> decide
      simp [a, eqD, e]
    · rw [List.mem_singleton] at h
      subst h
      have a := within_ok (v := 1) (a := 0) (b := 2) (by decide) g
      simp [a, eqD], fun _ => by simp⟩
  have hf : (xs ++ [(1 : Int)]).filter (fun x => decide (x = 1)) = [1] := by
    rw [List.filter_append, List.filter_eq_nil_iff.mpr fun x h => by rcases hx x h with rfl | rfl <;> decide]
    rfl
  rw [hf] at c
  replace c : _ = R.ok [PyData.int 1] g := c
  have hb : ((xs ++ [(1 : Int)]).map PyData.int).length ≤ 1000000 := by rw [List.length_map, List.length_append]; show xs.length + 1 ≤ _; omega
  generalize (xs ++ [(1 : Int)]).map PyData.int = D at c hb ⊢
  unfold sC
  generalize cC = C at c ⊢
  simp [hb, big, c]
theorem D_ok (O : PyData) (xs : List PyData) (h1 : 1 ≤ xs.length) (h2 : xs.length ≤ 24) (g : DL.G) : sD (st8 O (.tuple xs) .no .no) g = .nx (st8 O (.tuple xs) .no .no) g := by
  have b1 : (1 : Int) ≤ (xs.length : Int) := by omega
  have b2 : (xs.length : Int) ≤ 24 := by omega
  simp [isT, b1, b2]
theorem D_nt (O W : PyData) (h : isT "tuple" W = false) (g : DL.G) : sD (st8 O W .no .no) g = .rt (.bool false) g := by
  simp [h]
theorem D_len (O : PyData) (xs : List PyData) (h : xs.length = 0 ∨ 24 < xs.length) (g : DL.G) : sD (st8 O (.tuple xs) .no .no) g = .rt (.bool false) g := by
  rcases h with h | h
  · have b1 : ¬ ((1 : Int) ≤ (xs.length : Int)) := by omega
    simp [isT, b1]
  · have b1 : (1 : Int) ≤ (xs.length : Int) := by omega
    have b2 : ¬ ((xs.length : Int) ≤ 24) := by omega
    simp [isT, b1, b2]
theorem E_ok (O : PyData) (ws : List W4) (hl : ws.length ≤ 1000) (g : DL.G) (hw : ∀ w ∈ ws, m_is_way_of [encW4 w, O] g = .ok (.bool true) g) : sE (st8 O (wyD ws) .no .no) g = .nx (st8 O (wyD ws) .no .no) g := by
  have c := comp_none (i := 6) (cond := cE) encW4 ws (st8 O (wyD ws) .no .no) g fun w h => by
    have := hw w h
    generalize encW4 w = z at this ⊢
    simp [this]
  have hb : ws.length ≤ 1000000 := by omega
  unfold sE
  generalize cE = C at c ⊢
  simp [hb, big, c]
theorem E_bad (O bad : PyData) (A B : List W4) (hl : A.length + B.length ≤ 1000) (g : DL.G) (hw : ∀ w, w ∈ A ∨ w ∈ B → m_is_way_of [encW4 w, O] g = .ok (.bool true) g) (hb : m_is_way_of [bad, O] g = .ok (.bool false) g) : sE (st8 O (.tuple (A.map encW4 ++ [bad] ++ B.map encW4)) .no .no) g = .rt (.bool false) g := by
  let enc : Option W4 → PyData := fun x => match x with
    | none => bad
    | some w => encW4 w
  have e : A.map encW4 ++ [bad] ++ B.map encW4 = (A.map some ++ [none] ++ B.map some).map enc := by
    rw [List.map_append, List.map_append, List.map_map, List.map_map]
    rfl
  have c := compD_pure (t := nameT 6) (cond := cE) (elt := varD 6) enc Option.isNone enc (A.map some ++ [none] ++ B.map some) (st8 O (.tuple (A.map encW4 ++ [bad] ++ B.map encW4)) .no .no) g fun x hx => ⟨_, rfl, by
    generalize A.map encW4 ++ [bad] ++ B.map encW4 = D
    cases x with
    | none =>
      show cE [.sh (.tuple [O, .tuple D]), .no, .sh O, .sh (.tuple D), .no, .no, .sh bad, .no] g = .ok true g
      simp [hb]
    | some w =>
      have hw' : w ∈ A ∨ w ∈ B := by
        rcases List.mem_append.mp hx with h | h
        · rcases List.mem_append.mp h with h | h
          · obtain ⟨w', h1, h2⟩ := List.mem_map.mp h
            injection h2 with h2
            rw [← h2]; exact .inl h1
          · rw [List.mem_singleton] at h
            cases h
        · obtain ⟨w', h1, h2⟩ := List.mem_map.mp h
          injection h2 with h2
          rw [← h2]; exact .inr h1
      show cE [.sh (.tuple [O, .tuple D]), .no, .sh O, .sh (.tuple D), .no, .no, .sh (encW4 w), .no] g = .ok false g
      have := hw w hw'
      generalize encW4 w = z at this ⊢
      simp [this], fun _ => by
    show varD 6 [.sh (.tuple [O, .tuple (A.map encW4 ++ [bad] ++ B.map encW4)]), .no, .sh O, .sh (.tuple (A.map encW4 ++ [bad] ++ B.map encW4)), .no, .no, .sh (enc x), .no] g = _
    simp⟩
  have sn : ∀ l : List W4, (l.map some).filter Option.isNone = [] := fun l => List.filter_eq_nil_iff.mpr fun x hx => by
    obtain ⟨w, _, rfl⟩ := List.mem_map.mp hx
    simp
  have hf : (A.map some ++ [(none : Option W4)] ++ B.map some).filter Option.isNone = [none] := by
    rw [List.filter_append, List.filter_append, sn, sn]
    rfl
  rw [hf, ← e] at c
  replace c : _ = R.ok [bad] g := c
  have hlen : (A.map encW4 ++ [bad] ++ B.map encW4).length ≤ 1000000 := by
    rw [List.length_append, List.length_append, List.length_map, List.length_map]
    show A.length + 1 + B.length ≤ _
    omega
  generalize A.map encW4 ++ [bad] ++ B.map encW4 = D at c hlen ⊢
  unfold sE
  generalize cE = C at c ⊢
  simp [hlen, big, c]
theorem F_stepX (l2 : ws.length ≤ 24) (qs : ∀ w ∈ ws, Share w.2.2.2) {r : Nat} (hr : r < os.length) (hne : chs ws r ≠ []) (hsum : os[r]?.getD 0 = 2 → sumR ws r = 1) (x4 : Sl) (g : DL.G) : tF (st8 (owD os) (wyD ws) (.sh (.int (r : Int))) x4) g = .nx (st8 (owD os) (wyD ws) (.sh (.int (r : Int))) (.sh (.list ((chs ws r).map natD)))) g := by
  have hp := placesFrom_ok (os := os) l2 r g
  have hl := chs_len ws r
  have e1 := ix_map PyData.int os r os[r] (List.getElem?_eq_getElem hr)
  have hk : ∀ k ∈ chs ws r, ∃ w, ws[k]? = some w ∧ w ∈ ws := fun k hk => by
    obtain ⟨w, h1, _⟩ := chs_mem.mp hk
    exact ⟨w, h1, List.mem_of_getElem? h1⟩
  have c := comp_pure (fi := itemsD (varD 4)) (j := 7) (e := opD ixD (opD ixD (varD 3) (varD 7)) (constD (.int 3))) natD (fun k => encQ (ws[k]?.getD w0).2.2.2) (chs ws r) (ρ := st8 (owD os) (wyD ws) (.sh (.int (r : Int))) (.sh (.list ((chs ws r).map natD)))) (g := g) (by simp) (by omega) fun k hkk => by
    obtain ⟨w, h1, _⟩ := hk k hkk
    have e2 := ix_map encW4 ws k w h1
    have e3 : ixD (encW4 w) (.int 3) = some (encQ w.2.2.2) := L2.atI_nat (j := 3) rfl
    rw [h1]
    show opD ixD (opD ixD (varD 3) (varD 7)) (constD (.int 3)) [.sh (.tuple [owD os, wyD ws]), .sh (.int (r : Int)), .sh (owD os), .sh (wyD ws), .sh (.list ((chs ws r).map natD)), .no, .no, .sh (natD k)] g = .ok (encQ w.2.2.2) g
    generalize encQ w.2.2.2 = Q at e3 ⊢
    generalize encW4 w = Z at e2 e3
    simp [e2, e3]
  have hs := sumOf_ok ((chs ws r).map fun k => (ws[k]?.getD w0).2.2.2) (by rw [List.length_map]; omega) (by
    intro q hq
    obtain ⟨k, h1, rfl⟩ := List.mem_map.mp hq
    obtain ⟨w, h2, h3⟩ := hk k h1
    rw [h2]
    exact qs w h3) g
  rw [chs_share, List.map_map] at hs
  have hx : xF (st8 (owD os) (wyD ws) (.sh (.int (r : Int))) (.sh (.list ((chs ws r).map natD)))) g = .ok (encQ (sumR ws r)) g := by
    unfold xF
    generalize (shareO (lcO (itemsD (varD 4)) [7] (nameT 7) yesT (opD ixD (opD ixD (varD 3) (varD 7)) (constD (.int 3))))) = E at c ⊢
    generalize encQ (sumR ws r) = Q at hs ⊢
    replace c : E (st8 (owD os) (wyD ws) (.sh (.int (r : Int))) (.sh (.list ((chs ws r).map natD)))) g = .ok (.list ((chs ws r).map (encQ ∘ fun k => (ws[k]?.getD w0).2.2.2))) g := c
    generalize (chs ws r).map (encQ ∘ fun k => (ws[k]?.getD w0).2.2.2) = L at c hs
    simp [c, hs]
  refine (seq_eq (ρ1 := st8 (owD os) (wyD ws) (.sh (.int (r : Int))) (.sh (.list ((chs ws r).map natD)))) (g1 := g) ?_).trans ?_
  · refine (set_ok (d := .list ((chs ws r).map natD)) (g' := g) ?_).trans rfl
    unfold encL at hp
    generalize PyData.list ((chs ws r).map natD) = D at hp ⊢
    simp [hp]
  · refine (if_no (g1 := g) ?_).trans rfl
    cases hc : chs ws r with
    | nil => exact absurd hc hne
    | cons k0 rest =>
      rw [hc] at hx
      rw [List.getElem?_eq_getElem hr] at hsum
      have hsum : os[r] = 2 → sumR ws r = 1 := hsum
      have e6 : neD (encQ (sumR ws r)) (.tuple [.int 1, .int 1]) = some (.bool (!decide (sumR ws r = 1))) := ne_Q (sumR ws r) 1
      generalize xF = X at hx ⊢
      generalize encQ (sumR ws r) = Q at hx e6
      rw [List.map_cons] at hx ⊢
      generalize rest.map natD = RL at hx ⊢
      by_cases hz : os[r] = 2
      · have e5 : eqD (.int os[r]) (.int 2) = some (.bool true) := by simp [eqD, hz]
        rw [decide_eq_true (hsum hz)] at e6
        simp [e1, e5, hx, e6]
      · have e5 : eqD (.int os[r]) (.int 2) = some (.bool false) := by simp [eqD, hz]
        simp [e1, e5]
theorem F_step (V : Vl os ws) {r : Nat} (hr : r < os.length) (x4 : Sl) (g : DL.G) : tF (st8 (owD os) (wyD ws) (.sh (.int (r : Int))) x4) g = .nx (st8 (owD os) (wyD ws) (.sh (.int (r : Int))) (.sh (.list ((chs ws r).map natD)))) g := F_stepX V.l2 V.q hr (V.ne hr) (V.s r hr) x4 g
theorem isLottery_ok (V : Vl os ws) (g : DL.G) : m_is_lottery [encL os ws] g = .ok (.bool true) g := by
  have n1 := V.n1
  have n2 := V.n2
  have l1 := V.l1
  have l2 := V.l2
  have hb : ((os.length : Nat) : Int) ≤ 1000000 ∧ -1000000 ≤ ((os.length : Nat) : Int) := by omega
  unfold m_is_lottery
  refine fn_rt ?_
  rw [body_lot]
  refine (seq_eq (A_ok (os.map PyData.int) (wyD ws) (by rw [List.length_map]; exact n1) (by rw [List.length_map]; exact n2) g)).trans ?_
  refine (seq_eq (ρ1 := st8 (owD os) (wyD ws) .no .no) (g1 := g) (by simp)).trans ?_
  refine (seq_eq (C_ok (wyD ws) os V.o (by omega) g)).trans ?_
  refine (seq_eq (D_ok (owD os) (ws.map encW4) (by rw [List.length_map]; exact l1) (by rw [List.length_map]; exact l2) g)).trans ?_
  refine (seq_eq (E_ok (owD os) ws (by omega) g fun w hw => wayOf_ok V hw g)).trans ?_
  obtain ⟨ρ', g', h1, hg', x1, x4, rfl⟩ := forD_all (t := nameT 1) (body := tF) (fun k : Nat => PyData.int (0 + (k : Int))) (fun _ ρ g' => g' = g ∧ ∃ x1 x4, ρ = st8 (owD os) (wyD ws) x1 x4) (List.range os.length) (by
    rintro pre r post e ρ g' ⟨e', x1, x4, rfl⟩
    obtain ⟨_, hr, _⟩ := range_pre e
    have h := F_step V hr x4 g'
    rw [show ((r : Nat) : Int) = 0 + (r : Int) by omega] at h
    exact ⟨_, _, g', rfl, .inl h, e', _, _, rfl⟩) (g := g) (ρ := st8 (owD os) (wyD ws) .no .no) ⟨rfl, _, _, rfl⟩
  rw [hg', ← upFrom_map] at h1
  refine (seq_eq (for_run (g1 := g) (by simp [hb, big]) h1)).trans ?_
  rfl
theorem checkLottery_ok (V : Vl os ws) (g : DL.G) : m_check_lottery [encL os ws] g = .ok .none g := by
  have := isLottery_ok V g
  generalize encL os ws = A at this ⊢
  simp [m_check_lottery, b_check_lottery, this]
theorem checkLottery_bad {A : PyData} {g : DL.G} (h : m_is_lottery [A] g = .ok (.bool false) g) : m_check_lottery [A] g = .ex 0 g := by
  simp [m_check_lottery, b_check_lottery, h]
end
end K

set_option Elab.async false
set_option linter.all false
set_option maxRecDepth 100000
set_option maxHeartbeats 400000
namespace K
open PySem DL PyProof.Rows
/-! ### choices -/
abbrev Bv := Option (Bool ⊕ Int)
def encB : Bv → PyData
  | none => .none
  | some (.inl b) => .bool b
  | some (.inr z) => .int z
def encK : Option Nat → PyData
  | none => .none
  | some k => .int (k : Int)
def toB : Option Nat → Bv
  | none => none
  | some k => some (.inr (k : Int))
theorem enc_toB (k : Option Nat) : encB (toB k) = encK k := by cases k <;> rfl
theorem map_toB (p : List (Option Nat)) : (p.map toB).map encB = p.map encK := by
  rw [List.map_map]
  exact List.map_congr_left fun k _ => enc_toB k
abbrev plD (p : List (Option Nat)) : PyData := .tuple (p.map encK)
section
variable {os : List Int} {ws : List W4}
def optsC (os : List Int) (ws : List W4) (r : Nat) : List (Option Nat) := if os[r]?.getD 0 = 2 then [none] else (chs ws r).map some
def goodC (os : List Int) (ws : List W4) (v : List Bv) (r : Nat) : Bool := decide (∃ k ∈ optsC os ws r, toB k = v[r]?.getD none)
def okC (os : List Int) (ws : List W4) (v : List Bv) : Bool := decide (v.length = os.length) && (List.range os.length).all (goodC os ws v)
/-- a plan -/
structure Plan (os : List Int) (ws : List W4) (p : List (Option Nat)) : Prop where
  l : p.length = os.length
  k : ∀ r, r < os.length → p[r]?.getD none ∈ optsC os ws r
theorem Plan.ok {p : List (Option Nat)} (h : Plan os ws p) : okC os ws (p.map toB) = true := by
  unfold okC
  rw [Bool.and_eq_true, decide_eq_true_iff, List.all_eq_true]
  refine ⟨by rw [List.length_map, h.l], fun r hr => decide_eq_true ⟨p[r]?.getD none, h.k r (List.mem_range.mp hr), ?_⟩⟩
  have hr := List.mem_range.mp hr
  rw [List.getElem?_map, List.getElem?_eq_getElem (by rw [h.l]; exact hr)]
  rfl
def witB (x : Bv) (a b : Int) : Bool := match x with
  | some (.inr v) => decide (a ≤ v ∧ v ≤ b)
  | _ => false
theorem within_B (x : Bv) (a b : Int) (g : DL.G) : m_is_within [encB x, .int a, .int b] g = .ok (.bool (witB x a b)) g := by
  cases x with
  | none => simp [encB, m_is_within, b_is_within, isT, witB]
  | some y => cases y with
    | inl c => simp [encB, m_is_within, b_is_within, isT, witB]
    | inr z => exact within_dec z a b g
theorem good_chance {v : List Bv} {r : Nat} (hr : r < os.length) (hz : os[r] = 2) : goodC os ws v r = decide (v[r]?.getD none = none) := by
  unfold goodC optsC
  rw [List.getElem?_eq_getElem hr]
  rw [if_pos (show ((some os[r]).getD 0 = 2) from hz)]
  refine decide_eq_decide.mpr ⟨?_, fun h => ⟨none, List.mem_cons_self, h.symm⟩⟩
  rintro ⟨k, hk, e⟩
  rw [List.mem_singleton] at hk
  subst hk
  exact e.symm
theorem good_own {v : List Bv} {r : Nat} (hr : r < os.length) (hz : os[r] ≠ 2) : goodC os ws v r = decide (∃ k ∈ chs ws r, v[r]?.getD none = some (.inr (k : Int))) := by
  unfold goodC optsC
  rw [List.getElem?_eq_getElem hr]
  rw [if_neg (show ¬ ((some os[r]).getD 0 = 2) from hz)]
  refine decide_eq_decide.mpr ⟨?_, ?_⟩
  · rintro ⟨k, hk, e⟩
    obtain ⟨j, hj, rfl⟩ := List.mem_map.mp hk
    exact ⟨j, hj, e.symm⟩
  · rintro ⟨k, hk, e⟩
    exact ⟨some k, List.mem_map.mpr ⟨k, hk, rfl⟩, e.symm⟩
noncomputable abbrev choQ : Sm := ifS (boolD (opD eqD (opD ixD (opD ixD (varD 0) (constD (.int 0))) (varD 2)) (constD (.int 2))))
  (ifS (boolD (unD notNoneD (opD ixD (varD 1) (varD 2))))
  (retS (constD (.bool false)))
  nextS)
  (ifS (orT (notT (truthD (callD 3 m_is_within (consD (opD ixD (varD 1) (varD 2)) (consD (constD (.int 0)) (consD (opD subD (unD lenD (opD ixD (varD 0) (constD (.int 1)))) (constD (.int 1))) nilD)))))) (boolD (opD neD (opD ixD (opD ixD (opD ixD (varD 0) (constD (.int 1))) (opD ixD (varD 1) (varD 2))) (constD (.int 0))) (varD 2))))
  (retS (constD (.bool false)))
  nextS)
theorem choQ_ok {v : List Bv} (hl : v.length = os.length) {r : Nat} (hr : r < os.length) (g : DL.G) : choQ [.sh (encL os ws), .sh (.tuple (v.map encB)), .sh (.int (r : Int))] g =
    if (!goodC os ws v r) = true then .rt (.bool false) g else .nx [.sh (encL os ws), .sh (.tuple (v.map encB)), .sh (.int (r : Int))] g := by
  have e3 := ix_map PyData.int os r os[r] (List.getElem?_eq_getElem hr)
  have hv : v[r]? = some v[r] := List.getElem?_eq_getElem (by omega)
  have e2 := ix_map encB v r v[r] hv
  by_cases hz : os[r] = 2
  · rw [good_chance hr hz, hv]
    show _ = if (!decide (v[r] = none)) = true then _ else _
    generalize v[r] = x at e2 ⊢
    generalize v.map encB = D at e2 ⊢
    unfold encL
    cases x with
    | none =>
      replace e2 : ixD (.tuple D) (.int (r : Int)) = some .none := e2
      simp [eqD, e3, hz, e2]
    | some y => cases y with
      | inl b =>
        replace e2 : ixD (.tuple D) (.int (r : Int)) = some (.bool b) := e2
        simp [eqD, e3, hz, e2]
      | inr z =>
        replace e2 : ixD (.tuple D) (.int (r : Int)) = some (.int z) := e2
        simp [eqD, e3, hz, e2]
  · rw [good_own hr hz, hv]
    show _ = if (!decide (∃ k ∈ chs ws r, v[r] = some (.inr (k : Int)))) = true then _ else _
    generalize v[r] = x at e2 ⊢
    have e5 := within_B x 0 ((ws.length : Int) - 1) g
    have bad : (!decide (∃ k ∈ chs ws r, x = some (.inr (k : Int)))) = true → witB x 0 ((ws.length : Int) - 1) = false → choQ [.sh (encL os ws), .sh (.tuple (v.map encB)), .sh (.int (r : Int))] g = .rt (.bool false) g := fun h1 h2 => by
      rw [h2] at e5
      generalize encB x = X at e2 e5 ⊢
      generalize v.map encB = D at e2 ⊢
      unfold encL
      simp [neD, eqD, e3, hz, e2, e5]
    cases x with
    | none =>
      rw [if_pos (by simp)]
      exact bad (by simp) rfl
    | some y => cases y with
      | inl b =>
        rw [if_pos (by simp)]
        exact bad (by simp) rfl
      | inr z =>
        by_cases hw : (0 : Int) ≤ z ∧ z ≤ (ws.length : Int) - 1
        · obtain ⟨k, rfl⟩ : ∃ k : Nat, z = (k : Int) := ⟨z.toNat, by omega⟩
          have hk : k < ws.length := by omega
          have e4 := ix_map encW4 ws k ws[k] (List.getElem?_eq_getElem hk)
          have e7 : ixD (encW4 ws[k]) (.int 0) = some (.int (ws[k].1 : Int)) := ix0 _ _
          replace e5 : m_is_within [.int (k : Int), .int 0, .int ((ws.length : Int) - 1)] g = .ok (.bool (decide ((0 : Int) ≤ (k : Int) ∧ (k : Int) ≤ (ws.length : Int) - 1))) g := e5
          rw [decide_eq_true hw] at e5
          have hc : (∃ j ∈ chs ws r, (some (.inr (k : Int)) : Bv) = some (.inr (j : Int))) ↔ ws[k].1 = r := by
            constructor
            · rintro ⟨j, hj, e⟩
              have : (k : Int) = (j : Int) := by injection e with e; injection e
              obtain rfl : k = j := by omega
              obtain ⟨w, w1, w2⟩ := chs_mem.mp hj
              rw [List.getElem?_eq_getElem hk] at w1
              injection w1 with w1
              rw [w1]; exact w2
            · intro e
              exact ⟨k, chs_mem.mpr ⟨_, List.getElem?_eq_getElem hk, e⟩, rfl⟩
          replace e2 : ixD (.tuple (v.map encB)) (.int (r : Int)) = some (.int (k : Int)) := e2
          generalize v.map encB = D at e2 ⊢
          generalize encW4 ws[k] = W at e4 e7
          by_cases hq : ws[k].1 = r
          · rw [decide_eq_true (hc.mpr hq)]
            unfold encL
            simp [neD, eqD, e3, hz, e2, e5, e4, e7, hq]
          · rw [decide_eq_false fun z => hq (hc.mp z)]
            have hq' : ¬ ((ws[k].1 : Int) = (r : Int)) := by omega
            unfold encL
            simp [neD, eqD, e3, hz, e2, e5, e4, e7, hq']
        · have hno : ¬ (∃ k ∈ chs ws r, (some (.inr z) : Bv) = some (.inr (k : Int))) := by
            rintro ⟨j, hj, e⟩
            have : z = (j : Int) := by injection e with e; injection e
            obtain ⟨w, w1, w2⟩ := chs_mem.mp hj
            have := (List.getElem?_eq_some_iff.mp w1).1
            omega
          rw [decide_eq_false hno] at bad ⊢
          exact bad rfl (decide_eq_false hw)
theorem isChoiceOf_any (h8 : os.length ≤ 8) (v : List Bv) (g : DL.G) : m_is_choice_of [encL os ws, .tuple (v.map encB)] g = .ok (.bool (okC os ws v)) g := by
  have hb : ((os.length : Nat) : Int) ≤ 1000000 ∧ -1000000 ≤ ((os.length : Nat) : Int) := by omega
  have t := isTuple_any (v.map encB) (os.length : Int) g
  rw [List.length_map] at t
  unfold m_is_choice_of
  refine fn_rt ?_
  show b_is_choice_of [.sh (encL os ws), .sh (.tuple (v.map encB)), .no] g = _
  unfold b_is_choice_of
  by_cases hl : v.length = os.length
  · rw [decide_eq_true (by omega)] at t
    refine (seq_eq (ρ1 := [.sh (encL os ws), .sh (.tuple (v.map encB)), .no]) (g1 := g) ((if_no (g1 := g) (by
      generalize v.map encB = D at t ⊢
      unfold encL
      simp [t])).trans rfl)).trans ?_
    have hfi : rangeD (unD lenD (varD 1)) [.sh (encL os ws), .sh (.tuple (v.map encB)), .no] g = .ok ((List.range os.length).map fun k : Nat => PyData.int (0 + (k : Int))) g := by
      rw [← upFrom_map]
      have hm : (v.map encB).length = os.length := by rw [List.length_map, hl]
      generalize v.map encB = D at hm ⊢
      simp [hb, big, hm]
    rcases forD_find (t := nameT 2) (body := choQ) (fun k : Nat => PyData.int (0 + (k : Int))) (fun ρ => ∃ x3, ρ = [.sh (encL os ws), .sh (.tuple (v.map encB)), x3]) (fun r => !goodC os ws v r) (fun _ => .bool false) g (List.range os.length) (by
      rintro r hr ρ ⟨x3, rfl⟩
      have hr := List.mem_range.mp hr
      have q := choQ_ok (ws := ws) hl hr g
      rw [show ((r : Nat) : Int) = 0 + (r : Int) by omega] at q
      exact ⟨_, _, rfl, ⟨_, rfl⟩, q⟩) [.sh (encL os ws), .sh (.tuple (v.map encB)), .no] ⟨_, rfl⟩ with ⟨x, hx, h1⟩ | ⟨hx, ρ', ⟨x3, rfl⟩, h1⟩
    · have : okC os ws v = false := by
        unfold okC
        rw [find_some _ _ hx, Bool.and_false]
      rw [this]
      refine seq_rt (a := forS (rangeD (unD lenD (varD 1))) (nameT 2) choQ) ?_
      unfold forS
      rw [hfi]
      exact h1
    · have : okC os ws v = true := by
        unfold okC
        rw [all_find _ _ hx, decide_eq_true hl]
        rfl
      rw [this]
      exact (seq_eq (for_run (g1 := g) hfi h1)).trans rfl
  · rw [decide_eq_false (by omega)] at t
    have : okC os ws v = false := by
      unfold okC
      rw [decide_eq_false hl, Bool.false_and]
    rw [this]
    refine seq_rt ?_
    generalize v.map encB = D at t ⊢
    unfold encL
    simp [t]
theorem isChoiceOf_not (os : List Int) (ws : List W4) {d : PyData} (g : DL.G) (hd : isT "tuple" d = false) : m_is_choice_of [encL os ws, d] g = .ok (.bool false) g := by
  have h : m_is_tuple [d, .int (os.length : Int)] g = .ok (.bool false) g := by simp [m_is_tuple, b_is_tuple, hd]
  unfold encL
  simp [m_is_choice_of, b_is_choice_of, h]
theorem isChoice_by (V : Vl os ws) {d : PyData} {b : Bool} {g : DL.G} (h : m_is_choice_of [encL os ws, d] g = .ok (.bool b) g) : m_is_choice [encL os ws, d] g = .ok (.bool b) g := by
  have hk := checkLottery_ok V g
  generalize encL os ws = A at h hk ⊢
  simp [m_is_choice, b_is_choice, hk, h]
theorem checkChoice_ok (V : Vl os ws) {p : List (Option Nat)} (h : Plan os ws p) (g : DL.G) : m_check_choice [encL os ws, plD p] g = .ok .none g := by
  have hk := checkLottery_ok V g
  have hc := isChoiceOf_any (ws := ws) V.n2 (p.map toB) g
  rw [h.ok, map_toB] at hc
  replace hc : m_is_choice_of [encL os ws, plD p] g = .ok (.bool true) g := hc
  generalize encL os ws = A at hc hk ⊢
  generalize plD p = B at hc ⊢
  simp [m_check_choice, b_check_choice, hk, hc]
theorem checkChoice_bad (V : Vl os ws) {d : PyData} {g : DL.G} (h : m_is_choice_of [encL os ws, d] g = .ok (.bool false) g) : m_check_choice [encL os ws, d] g = .ex 1 g := by
  have hk := checkLottery_ok V g
  generalize encL os ws = A at h hk ⊢
  simp [m_check_choice, b_check_choice, hk, h]
end
end K

set_option Elab.async false
set_option linter.all false
set_option maxRecDepth 100000
set_option maxHeartbeats 400000
namespace K
open PySem DL PyProof.Rows
section
variable {os : List Int} {ws : List W4} {p : List (Option Nat)}
theorem ix_pl {p : List (Option Nat)} {r : Nat} (hr : r < p.length) : ixD (plD p) (.int (r : Int)) = some (encK (p[r]?.getD none)) := by
  have := ix_map encK p r p[r] (List.getElem?_eq_getElem hr)
  rw [List.getElem?_eq_getElem hr]
  exact this
/-- the law's own word on a choice -/
noncomputable abbrev lawQ : Sm := seqS (ifS (andT (boolD (opD eqD (opD ixD (opD ixD (varD 0) (constD (.int 0))) (varD 2)) (constD (.int 2)))) (boolD (unD notNoneD (opD ixD (varD 1) (varD 2)))))
  (retS (constD (.bool false)))
  nextS)
  (ifS (andT (boolD (opD eqD (opD ixD (opD ixD (varD 0) (constD (.int 0))) (varD 2)) (constD (.int 0)))) (orT (boolD (unD isNoneD (opD ixD (varD 1) (varD 2)))) (boolD (opD neD (opD ixD (opD ixD (opD ixD (varD 0) (constD (.int 1))) (opD ixD (varD 1) (varD 2))) (constD (.int 0))) (varD 2)))))
  (retS (constD (.bool false)))
  nextS)
theorem lawQ_ok (V : Vl os ws) (hl : p.length = os.length) (hk : ∀ k, some k ∈ p → k < ws.length) {r : Nat} (hr : r < os.length) (g : DL.G) : lawQ [.sh (encL os ws), .sh (plD p), .sh (.int (r : Int))] g =
    if (!goodC os ws (p.map toB) r) = true then .rt (.bool false) g else .nx [.sh (encL os ws), .sh (plD p), .sh (.int (r : Int))] g := by
  have e3 := ix_map PyData.int os r os[r] (List.getElem?_eq_getElem hr)
  have hp : p[r]? = some p[r] := List.getElem?_eq_getElem (by omega)
  have e2 : ixD (plD p) (.int (r : Int)) = some (encK p[r]) := ix_map encK p r p[r] hp
  have hv : (p.map toB)[r]?.getD none = toB p[r] := by rw [List.getElem?_map, hp]; rfl
  have ho := V.o os[r] (List.getElem_mem hr)
  by_cases hz : os[r] = 2
  · rw [good_chance hr hz, hv]
    generalize hx : p[r] = x at e2 ⊢
    generalize plD p = D at e2 ⊢
    unfold encL
    cases x with
    | none =>
      replace e2 : ixD D (.int (r : Int)) = some .none := e2
      simp [eqD, e3, hz, e2, toB]
    | some k =>
      replace e2 : ixD D (.int (r : Int)) = some (.int (k : Int)) := e2
      simp [eqD, e3, hz, e2, toB]
  · have hz0 : os[r] = 0 := by rcases ho with h | h; exact h; exact absurd h hz
    rw [good_own hr hz, hv]
    have hkk : ∀ k, p[r] = some k → k < ws.length := fun k e => hk k (by rw [← e]; exact List.getElem_mem _)
    generalize p[r] = x at e2 hkk ⊢
    generalize plD p = D at e2 ⊢
    cases x with
    | none =>
      replace e2 : ixD D (.int (r : Int)) = some .none := e2
      rw [decide_eq_false (show ¬ (∃ k ∈ chs ws r, toB none = some (.inr (k : Int))) by rintro ⟨k, _, e⟩; cases e)]
      unfold encL
      simp [eqD, e3, hz0, e2]
    | some k =>
      replace e2 : ixD D (.int (r : Int)) = some (.int (k : Int)) := e2
      have hk := hkk k rfl
      have e4 := ix_map encW4 ws k ws[k] (List.getElem?_eq_getElem hk)
      have e7 : ixD (encW4 ws[k]) (.int 0) = some (.int (ws[k].1 : Int)) := ix0 _ _
      have hc : (∃ j ∈ chs ws r, toB (some k) = some (.inr (j : Int))) ↔ ws[k].1 = r := by
        constructor
        · rintro ⟨j, hj, e⟩
          have : (k : Int) = (j : Int) := by injection e with e; injection e
          obtain rfl : k = j := by omega
          obtain ⟨w, w1, w2⟩ := chs_mem.mp hj
          rw [List.getElem?_eq_getElem hk] at w1
          injection w1 with w1
          rw [w1]; exact w2
        · intro e
          exact ⟨k, chs_mem.mpr ⟨_, List.getElem?_eq_getElem hk, e⟩, rfl⟩
      generalize encW4 ws[k] = W at e4 e7
      by_cases hq : ws[k].1 = r
      · rw [decide_eq_true (hc.mpr hq)]
        unfold encL
        simp [neD, eqD, e3, hz0, e2, e4, e7, hq]
      · rw [decide_eq_false fun z => hq (hc.mp z)]
        have hq' : ¬ ((ws[k].1 : Int) = (r : Int)) := by omega
        unfold encL
        simp [neD, eqD, e3, hz0, e2, e4, e7, hq']
theorem lawIsPlan_ok (V : Vl os ws) (hl : p.length = os.length) (hk : ∀ k, some k ∈ p → k < ws.length) (g : DL.G) : m_law_is_plan [encL os ws, plD p] g = .ok (.bool (okC os ws (p.map toB))) g := by
  have n2 := V.n2
  have hb : ((os.length : Nat) : Int) ≤ 1000000 ∧ -1000000 ≤ ((os.length : Nat) : Int) := by omega
  unfold m_law_is_plan
  refine fn_rt ?_
  show b_law_is_plan [.sh (encL os ws), .sh (plD p), .no] g = _
  unfold b_law_is_plan
  have hfi : rangeD (unD lenD (opD ixD (varD 0) (constD (.int 0)))) [.sh (encL os ws), .sh (plD p), .no] g = .ok ((List.range os.length).map fun k : Nat => PyData.int (0 + (k : Int))) g := by
    rw [← upFrom_map]
    generalize plD p = D
    unfold encL
    simp [hb, big]
  rcases forD_find (t := nameT 2) (body := lawQ) (fun k : Nat => PyData.int (0 + (k : Int))) (fun ρ => ∃ x3, ρ = [.sh (encL os ws), .sh (plD p), x3]) (fun r => !goodC os ws (p.map toB) r) (fun _ => .bool false) g (List.range os.length) (by
    rintro r hr ρ ⟨x3, rfl⟩
    have hr := List.mem_range.mp hr
    have q := lawQ_ok V hl hk hr g
    rw [show ((r : Nat) : Int) = 0 + (r : Int) by omega] at q
    exact ⟨_, _, rfl, ⟨_, rfl⟩, q⟩) [.sh (encL os ws), .sh (plD p), .no] ⟨_, rfl⟩ with ⟨x, hx, h1⟩ | ⟨hx, ρ', ⟨x3, rfl⟩, h1⟩
  · have : okC os ws (p.map toB) = false := by
      unfold okC
      rw [find_some _ _ hx, Bool.and_false]
    rw [this]
    refine seq_rt (a := forS (rangeD (unD lenD (opD ixD (varD 0) (constD (.int 0))))) (nameT 2) lawQ) ?_
    unfold forS
    rw [hfi]
    exact h1
  · have : okC os ws (p.map toB) = true := by
      unfold okC
      rw [all_find _ _ hx, decide_eq_true (by rw [List.length_map, hl])]
      rfl
    rw [this]
    exact (seq_eq (for_run (g1 := g) hfi h1)).trans rfl
/-! ### the chance of the first ways -/
def firstP (ws : List W4) (p : List (Option Nat)) : List Nat → Nat → Rat → Rat
  | [], _, f => f
  | k :: ks, r, f => if (ws[k]?.getD w0).1 ≠ r ∨ (p[r]?.getD none ≠ none ∧ p[r]?.getD none ≠ some k) then 0 else firstP ws p ks (ws[k]?.getD w0).2.1 (f * (ws[k]?.getD w0).2.2.2)
noncomputable abbrev fstB : Sm := seqS (asgS (opD ixD (opD ixD (varD 0) (constD (.int 1))) (varD 5)) (tupT (consT (nameT 6) (consT (nameT 7) (consT (nameT 8) (consT (nameT 9) nilT))))))
  (seqS (ifS (orT (boolD (opD neD (varD 6) (varD 2))) (andT (boolD (unD notNoneD (opD ixD (varD 1) (varD 2)))) (boolD (opD neD (opD ixD (varD 1) (varD 2)) (varD 5)))))
  (retS (tupD (consD (constD (.int 0)) (consD (constD (.int 1)) nilD))))
  nextS)
  (seqS (setS 4 (callD 2 m_times (consD (varD 4) (consD (varD 9) nilD))))
  (setS 2 (varD 7))))
noncomputable abbrev lfsB : Sm := seqS (ifS (orT (boolD (opD neD (opD ixD (opD ixD (opD ixD (varD 0) (constD (.int 1))) (varD 5)) (constD (.int 0))) (varD 2))) (andT (boolD (unD notNoneD (opD ixD (varD 1) (varD 2)))) (boolD (opD neD (opD ixD (varD 1) (varD 2)) (varD 5)))))
  (retS (tupD (consD (constD (.int 0)) (consD (constD (.int 1)) nilD))))
  nextS)
  (seqS (setS 4 (callD 2 m_law_times (consD (varD 4) (consD (opD ixD (opD ixD (opD ixD (varD 0) (constD (.int 1))) (varD 5)) (constD (.int 3))) nilD))))
  (setS 2 (opD ixD (opD ixD (opD ixD (varD 0) (constD (.int 1))) (varD 5)) (constD (.int 1)))))
theorem szP {j : Nat} {f : Rat} (hf : Sz (Lc ^ j) (Lc ^ j) f) (hj : j ≤ 100) : Bd f := by
  have h1 : Lc ^ j ≤ (2 ^ 28) ^ j := Nat.pow_le_pow_left (by decide) j
  rw [← Nat.pow_mul] at h1
  have h2 : (2 : Nat) ^ (28 * j) < 2 ^ 4000 := Nat.pow_lt_pow_right (by decide) (by omega)
  exact hf.bd (Nat.pow_pos (by decide)) (Nat.lt_of_le_of_lt h1 h2) (Nat.lt_of_le_of_lt h1 h2)
theorem neK (a b : Option Nat) (k : Nat) (h : a = b) : True := trivial
theorem plan_test (a : Option Nat) (k : Nat) : (match a with | none => false | some j => !decide ((j : Int) = (k : Int))) = decide (a ≠ none ∧ a ≠ some k) := by
  cases a with
  | none => simp
  | some j =>
    by_cases h : j = k
    · subst h; simp
    · have : ¬ ((j : Int) = (k : Int)) := by omega
      simp [h, this]
theorem first_step (V : Vl os ws) (hl : p.length = os.length) {k r j : Nat} {f : Rat} (hk : k < ws.length) (hr : r < os.length) (hf : Sz (Lc ^ j) (Lc ^ j) f) (hj : j ≤ 100) (pl x6 x7 x8 x9 : Sl) (g : DL.G) :
    ((ws[k].1 ≠ r ∨ (p[r]?.getD none ≠ none ∧ p[r]?.getD none ≠ some k)) → fstB [.sh (encL os ws), .sh (plD p), .sh (.int (r : Int)), pl, .sh (encQ f), .sh (natD k), x6, x7, x8, x9] g = .rt (encQ 0) g ∧ lfsB [.sh (encL os ws), .sh (plD p), .sh (.int (r : Int)), pl, .sh (encQ f), .sh (natD k)] g = .rt (encQ 0) g) ∧
    (¬ (ws[k].1 ≠ r ∨ (p[r]?.getD none ≠ none ∧ p[r]?.getD none ≠ some k)) → (∃ y6 y7 y8 y9, fstB [.sh (encL os ws), .sh (plD p), .sh (.int (r : Int)), pl, .sh (encQ f), .sh (natD k), x6, x7, x8, x9] g = .nx [.sh (encL os ws), .sh (plD p), .sh (.int (ws[k].2.1 : Int)), pl, .sh (encQ (f * ws[k].2.2.2)), .sh (natD k), y6, y7, y8, y9] g) ∧
      lfsB [.sh (encL os ws), .sh (plD p), .sh (.int (r : Int)), pl, .sh (encQ f), .sh (natD k)] g = .nx [.sh (encL os ws), .sh (plD p), .sh (.int (ws[k].2.1 : Int)), pl, .sh (encQ (f * ws[k].2.2.2)), .sh (natD k)] g) := by
  have e1 := ix_map encW4 ws k ws[k] (List.getElem?_eq_getElem hk)
  have e2 := ix_pl (p := p) (r := r) (by omega)
  have e0 : ixD (encW4 ws[k]) (.int 0) = some (.int (ws[k].1 : Int)) := ix0 _ _
  have e5 : ixD (encW4 ws[k]) (.int 1) = some (.int (ws[k].2.1 : Int)) := ix1 _ _ _
  have e6 : ixD (encW4 ws[k]) (.int 3) = some (encQ ws[k].2.2.2) := L2.atI_nat (j := 3) rfl
  have hsh := V.q ws[k] (List.getElem_mem hk)
  obtain ⟨_, o2, _, o4⟩ := ops_ok (szP hf hj) hsh.bd g
  have et : encW4 ws[k] = .tuple [.int (ws[k].1 : Int), .int (ws[k].2.1 : Int), .int ws[k].2.2.1, encQ ws[k].2.2.2] := rfl
  generalize encQ (f * ws[k].2.2.2) = Q1 at o2 o4 ⊢
  generalize encQ ws[k].2.2.2 = Q2 at e6 o2 o4 et
  generalize encQ f = Q3 at o2 o4 ⊢
  generalize encW4 ws[k] = W at e0 e1 e5 e6 et
  have z0 : PyData.tuple [.int 0, .int 1] = encQ 0 := rfl
  generalize encQ 0 = Q0 at z0 ⊢
  generalize plD p = PD at e2 ⊢
  have hn : neD (.int (ws[k].1 : Int)) (.int (r : Int)) = some (.bool (decide (ws[k].1 ≠ r))) := by
    by_cases h : ws[k].1 = r
    · rw [h]; simp [neD, eqD]
    · have h' : ¬ ((ws[k].1 : Int) = (r : Int)) := by omega
      simp [neD, eqD, h, h']
  generalize p[r]?.getD none = a at e2 ⊢
  generalize ws[k].1 = s at hn e0 et ⊢
  generalize ws[k].2.1 = t at e5 et ⊢
  unfold encL
  constructor
  · intro h
    by_cases h1 : s = r
    · rw [decide_eq_false (by simpa using h1)] at hn
      obtain ⟨h2, h3⟩ : a ≠ none ∧ a ≠ some k := by
        rcases h with h | h
        · exact absurd h1 h
        · exact h
      cases a with
      | none => exact absurd rfl h2
      | some j =>
        have : ¬ ((j : Int) = (k : Int)) := fun z => h3 (by congr 1; omega)
        have hn2 : neD (.int (j : Int)) (.int (k : Int)) = some (.bool true) := by simp [neD, eqD, this]
        constructor
        · simp [e1, et, hn, e2, encK, hn2, z0]
        · simp [e1, e0, hn, e2, encK, hn2, z0]
    · rw [decide_eq_true (by simpa using h1)] at hn
      constructor
      · simp [e1, et, hn, z0]
      · simp [e1, e0, hn, z0]
  · intro h
    have h1 : s = r := Classical.not_not.mp fun z => h (.inl z)
    rw [decide_eq_false (by simpa using h1)] at hn
    have h2 : a = none ∨ a = some k := by
      cases a with
      | none => exact .inl rfl
      | some j => exact .inr (Classical.not_not.mp fun z => h (.inr ⟨by simp, z⟩))
    rcases h2 with rfl | rfl
    · constructor
      · exact ⟨_, _, _, _, by simp [e1, et, hn, e2, encK, o2]; exact ⟨rfl, rfl, rfl, rfl⟩⟩
      · simp [e1, e0, e5, e6, hn, e2, encK, o4]
    · have hn2 : neD (.int (k : Int)) (.int (k : Int)) = some (.bool false) := by simp [neD, eqD]
      constructor
      · exact ⟨_, _, _, _, by simp [e1, et, hn, e2, encK, hn2, o2]; exact ⟨rfl, rfl, rfl, rfl⟩⟩
      · simp [e1, e0, e5, e6, hn, e2, encK, hn2, o4]
end
end K

set_option Elab.async false
set_option linter.all false
set_option maxRecDepth 100000
set_option maxHeartbeats 400000
namespace K
open PySem DL PyProof.Rows
section
variable {os : List Int} {ws : List W4} {p : List (Option Nat)}
theorem sz_next {j : Nat} {f q : Rat} (hf : Sz (Lc ^ j) (Lc ^ j) f) (hq : Share q) : Sz (Lc ^ (j + 1)) (Lc ^ (j + 1)) (f * q) := by
  have := hf.mul hq.sz
  rw [← Nat.pow_succ] at this
  exact this
theorem firstP_cons {k r : Nat} {ks : List Nat} {f : Rat} (hk : k < ws.length) : firstP ws p (k :: ks) r f = if ws[k].1 ≠ r ∨ (p[r]?.getD none ≠ none ∧ p[r]?.getD none ≠ some k) then 0 else firstP ws p ks ws[k].2.1 (f * ws[k].2.2.2) := by
  show (if (ws[k]?.getD w0).1 ≠ r ∨ (p[r]?.getD none ≠ none ∧ p[r]?.getD none ≠ some k) then 0 else firstP ws p ks (ws[k]?.getD w0).2.1 (f * (ws[k]?.getD w0).2.2.2)) = _
  rw [List.getElem?_eq_getElem hk]
  rfl
theorem first_loop (V : Vl os ws) (hl : p.length = os.length) (pl : Sl) (g : DL.G) : ∀ (ks : List Nat) (r j : Nat) (f : Rat), (∀ k ∈ ks, k < ws.length) → r < os.length → Sz (Lc ^ j) (Lc ^ j) f → j + ks.length ≤ 100 →
    (∀ x5 x6 x7 x8 x9, forD (nameT 5) fstB (ks.map natD) [.sh (encL os ws), .sh (plD p), .sh (.int (r : Int)), pl, .sh (encQ f), x5, x6, x7, x8, x9] g = .rt (encQ (firstP ws p ks r f)) g ∨ ∃ ρ', forD (nameT 5) fstB (ks.map natD) [.sh (encL os ws), .sh (plD p), .sh (.int (r : Int)), pl, .sh (encQ f), x5, x6, x7, x8, x9] g = .nx ρ' g ∧ ρ'[4]? = some (.sh (encQ (firstP ws p ks r f)))) ∧
    (∀ x5, forD (nameT 5) lfsB (ks.map natD) [.sh (encL os ws), .sh (plD p), .sh (.int (r : Int)), pl, .sh (encQ f), x5] g = .rt (encQ (firstP ws p ks r f)) g ∨ ∃ ρ', forD (nameT 5) lfsB (ks.map natD) [.sh (encL os ws), .sh (plD p), .sh (.int (r : Int)), pl, .sh (encQ f), x5] g = .nx ρ' g ∧ ρ'[4]? = some (.sh (encQ (firstP ws p ks r f))))
  | [], r, j, f, _, _, _, _ => ⟨fun _ _ _ _ _ => .inr ⟨_, rfl, rfl⟩, fun _ => .inr ⟨_, rfl, rfl⟩⟩
  | k :: ks, r, j, f, hks, hr, hf, hj => by
    have hk := hks k List.mem_cons_self
    rw [List.length_cons] at hj
    have st := first_step V hl hk hr hf (by omega) pl
    rw [firstP_cons hk, List.map_cons]
    by_cases hc : ws[k].1 ≠ r ∨ (p[r]?.getD none ≠ none ∧ p[r]?.getD none ≠ some k)
    · rw [if_pos hc]
      constructor
      · intro x5 x6 x7 x8 x9
        have h1 := ((st x6 x7 x8 x9 g).1 hc).1
        refine .inl ?_
        unfold forD
        have e1 : nameT 5 (natD k) [.sh (encL os ws), .sh (plD p), .sh (.int (r : Int)), pl, .sh (encQ f), x5, x6, x7, x8, x9] = some [.sh (encL os ws), .sh (plD p), .sh (.int (r : Int)), pl, .sh (encQ f), .sh (natD k), x6, x7, x8, x9] := rfl
        rw [e1]
        generalize fstB = B at h1 ⊢
        simp only [h1]
      · intro x5
        have h1 := ((st .no .no .no .no g).1 hc).2
        refine .inl ?_
        unfold forD
        have e1 : nameT 5 (natD k) [.sh (encL os ws), .sh (plD p), .sh (.int (r : Int)), pl, .sh (encQ f), x5] = some [.sh (encL os ws), .sh (plD p), .sh (.int (r : Int)), pl, .sh (encQ f), .sh (natD k)] := rfl
        rw [e1]
        generalize lfsB = B at h1 ⊢
        simp only [h1]
    · rw [if_neg hc]
      have ht := (V.w ws[k] (List.getElem_mem hk)).2.1
      obtain ⟨ih1, ih2⟩ := first_loop V hl pl g ks ws[k].2.1 (j + 1) (f * ws[k].2.2.2) (fun z hz => hks z (List.mem_cons_of_mem _ hz)) ht (sz_next hf (V.q ws[k] (List.getElem_mem hk))) (by omega)
      constructor
      · intro x5 x6 x7 x8 x9
        obtain ⟨y6, y7, y8, y9, h1⟩ := ((st x6 x7 x8 x9 g).2 hc).1
        have ih := ih1 (.sh (natD k)) y6 y7 y8 y9
        have e1 : nameT 5 (natD k) [.sh (encL os ws), .sh (plD p), .sh (.int (r : Int)), pl, .sh (encQ f), x5, x6, x7, x8, x9] = some [.sh (encL os ws), .sh (plD p), .sh (.int (r : Int)), pl, .sh (encQ f), .sh (natD k), x6, x7, x8, x9] := rfl
        have e2 : forD (nameT 5) fstB (natD k :: ks.map natD) [.sh (encL os ws), .sh (plD p), .sh (.int (r : Int)), pl, .sh (encQ f), x5, x6, x7, x8, x9] g = forD (nameT 5) fstB (ks.map natD) [.sh (encL os ws), .sh (plD p), .sh (.int (ws[k].2.1 : Int)), pl, .sh (encQ (f * ws[k].2.2.2)), .sh (natD k), y6, y7, y8, y9] g := by
          rw [forD, e1]
          generalize fstB = B at h1 ⊢
          simp only [h1]
        rw [e2]
        exact ih
      · intro x5
        have h1 := ((st .no .no .no .no g).2 hc).2
        have ih := ih2 (.sh (natD k))
        have e1 : nameT 5 (natD k) [.sh (encL os ws), .sh (plD p), .sh (.int (r : Int)), pl, .sh (encQ f), x5] = some [.sh (encL os ws), .sh (plD p), .sh (.int (r : Int)), pl, .sh (encQ f), .sh (natD k)] := rfl
        have e2 : forD (nameT 5) lfsB (natD k :: ks.map natD) [.sh (encL os ws), .sh (plD p), .sh (.int (r : Int)), pl, .sh (encQ f), x5] g = forD (nameT 5) lfsB (ks.map natD) [.sh (encL os ws), .sh (plD p), .sh (.int (ws[k].2.1 : Int)), pl, .sh (encQ (f * ws[k].2.2.2)), .sh (natD k)] g := by
          rw [forD, e1]
          generalize lfsB = B at h1 ⊢
          simp only [h1]
        rw [e2]
        exact ih
theorem one_sz : Sz (Lc ^ 0) (Lc ^ 0) 1 := ⟨1, (Rat.mkRat_one 1).symm, by decide⟩
theorem checkRoom_ok {r : Nat} (hr : r < os.length) (g : DL.G) : m_check_room [encL os ws, .int (r : Int)] g = .ok .none g := by
  have := within_ok (v := (r : Int)) (a := 0) (b := (os.length : Int) - 1) ⟨by omega, by omega⟩ g
  unfold encL
  simp [m_check_room, b_check_room, this]
theorem loop_ret {fi : Ar} {t : Tg} {b : Sm} {ds : List PyData} {ρ : Nv} {g : DL.G} {d : PyData} {i : Nat} (hf : fi ρ g = .ok ds g) (h : forD t b ds ρ g = .rt d g ∨ ∃ ρ', forD t b ds ρ g = .nx ρ' g ∧ ρ'[i]? = some (.sh d)) : seqS (forS fi t b) (retS (varD i)) ρ g = .rt d g := by
  rcases h with h | ⟨ρ', h1, h2⟩
  · refine seq_rt ?_
    unfold forS
    rw [hf]
    exact h
  · refine (seq_eq (for_run (g1 := g) hf h1)).trans ?_
    simp [h2]
theorem firstWays_ok (V : Vl os ws) (hp : Plan os ws p) {r : Nat} (hr : r < os.length) (ks : List Nat) (hks : ∀ k ∈ ks, k < ws.length) (hl : ks.length ≤ 60) (g : DL.G) : m_first_ways_chance [encL os ws, plD p, .int (r : Int), .list (ks.map natD)] g = .ok (encQ (firstP ws p ks r 1)) g := by
  have l2 := V.l2
  have c1 := checkChoice_ok V hp g
  have c2 := checkRoom_ok (ws := ws) hr g
  have h := (first_loop V hp.l (.sh (.list (ks.map natD))) g ks r 0 1 hks hr one_sz (by omega)).1 .no .no .no .no .no
  unfold m_first_ways_chance
  refine fn_rt ?_
  show b_first_ways_chance [.sh (encL os ws), .sh (plD p), .sh (.int (r : Int)), .sh (.list (ks.map natD)), .no, .no, .no, .no, .no, .no] g = _
  have hlen : (ks.map natD).length ≤ 60 := by rw [List.length_map]; exact hl
  have cc := comp_none (i := 5) (cond := notT (truthD (callD 3 m_is_within (consD (varD 5) (consD (constD (.int 0)) (consD (opD subD (unD lenD (opD ixD (varD 0) (constD (.int 1)))) (constD (.int 1))) nilD)))))) natD ks [.sh (encL os ws), .sh (plD p), .sh (.int (r : Int)), .sh (.list (ks.map natD)), .no, .no, .no, .no, .no, .no] g fun k hk => by
    have := within_ok (v := (k : Int)) (a := 0) (b := (ws.length : Int) - 1) ⟨by omega, by have := hks k hk; omega⟩ g
    unfold encL
    simp [this]
  unfold b_first_ways_chance
  generalize hA : encL os ws = A at c1 c2 h cc ⊢
  generalize plD p = PD at c1 h cc ⊢
  generalize ks.map natD = KD at hlen h cc ⊢
  generalize (notT (truthD (callD 3 m_is_within (consD (varD 5) (consD (constD (.int 0)) (consD (opD subD (unD lenD (opD ixD (varD 0) (constD (.int 1)))) (constD (.int 1))) nilD)))))) = C at cc ⊢
  refine (seq_eq (ρ1 := [.sh A, .sh PD, .sh (.int (r : Int)), .sh (.list KD), .no, .no, .no, .no, .no, .no]) (g1 := g) (by simp [c1])).trans ?_
  refine (seq_eq (ρ1 := [.sh A, .sh PD, .sh (.int (r : Int)), .sh (.list KD), .no, .no, .no, .no, .no, .no]) (g1 := g) (by simp [c2])).trans ?_
  refine (seq_eq (ρ1 := [.sh A, .sh PD, .sh (.int (r : Int)), .sh (.list KD), .no, .no, .no, .no, .no, .no]) (g1 := g) ((if_no (g1 := g) (by
    have : ¬ ((60 : Int) < (KD.length : Int)) := by omega
    simp [isT, this])).trans rfl)).trans ?_
  refine (seq_eq (ρ1 := [.sh A, .sh PD, .sh (.int (r : Int)), .sh (.list KD), .no, .no, .no, .no, .no, .no]) (g1 := g) ((if_no (g1 := g) (by
    have hb : KD.length ≤ 1000000 := by omega
    simp [hb, big, cc])).trans rfl)).trans ?_
  refine (seq_eq (ρ1 := [.sh A, .sh PD, .sh (.int (r : Int)), .sh (.list KD), .sh (encQ 1), .no, .no, .no, .no, .no]) (g1 := g) (by simp [encQ])).trans ?_
  exact loop_ret (by simp) h
theorem lawFirst_ok (V : Vl os ws) (hl : p.length = os.length) {r : Nat} (hr : r < os.length) (ks : List Nat) (hks : ∀ k ∈ ks, k < ws.length) (hll : ks.length ≤ 60) (g : DL.G) : m_law_first [encL os ws, plD p, .int (r : Int), .list (ks.map natD)] g = .ok (encQ (firstP ws p ks r 1)) g := by
  have h := (first_loop V hl (.sh (.list (ks.map natD))) g ks r 0 1 hks hr one_sz (by omega)).2 .no
  unfold m_law_first
  refine fn_rt ?_
  show b_law_first [.sh (encL os ws), .sh (plD p), .sh (.int (r : Int)), .sh (.list (ks.map natD)), .no, .no] g = _
  unfold b_law_first
  generalize ks.map natD = KD at h ⊢
  refine (seq_eq (ρ1 := [.sh (encL os ws), .sh (plD p), .sh (.int (r : Int)), .sh (.list KD), .sh (encQ 1), .no]) (g1 := g) (by simp [encQ])).trans ?_
  exact loop_ret (by simp) h
end
end K

set_option Elab.async false
set_option linter.all false
set_option maxRecDepth 100000
set_option maxHeartbeats 400000
namespace K
open PySem DL PyProof.Rows
theorem filter_one {l : List Nat} {k : Nat} (hn : l.Nodup) (hk : k ∈ l) (p : Nat → Bool) (hp : ∀ j, p j = decide (j = k)) : l.filter p = [k] := by
  induction l with
  | nil => cases hk
  | cons x l ih =>
    have hx := List.nodup_cons.mp hn
    rw [List.filter_cons]
    by_cases h : x = k
    · subst h
      rw [if_pos (by rw [hp]; simp)]
      congr 1
      refine List.filter_eq_nil_iff.mpr fun j hj => ?_
      rw [hp]
      simp only [decide_eq_true_iff]
      rintro rfl
      exact hx.1 hj
    · rw [if_neg (by rw [hp]; simp [h])]
      rcases List.mem_cons.mp hk with z | z
      · exact absurd z.symm h
      · exact ih hx.2 z
theorem chs_nodup (ws : List W4) (r : Nat) : (chs ws r).Nodup := List.Nodup.sublist List.filter_sublist List.nodup_range
section
variable {os : List Int} {ws : List W4} {p : List (Option Nat)}
/-- the ways that are gone from a room -/
def stepsP (ws : List W4) (p : List (Option Nat)) (r : Nat) : List Nat := match p[r]?.getD none with
  | none => chs ws r
  | some k => [k]
theorem Plan.own (h : Plan os ws p) {r k : Nat} (hr : r < os.length) (e : p[r]?.getD none = some k) : k ∈ chs ws r := by
  have := h.k r hr
  rw [e] at this
  unfold optsC at this
  split at this
  · simp at this
  · obtain ⟨j, hj, e⟩ := List.mem_map.mp this
    injection e with e
    rw [← e]; exact hj
theorem Plan.lt (h : Plan os ws p) : ∀ k, some k ∈ p → k < ws.length := fun k hk => by
  obtain ⟨r, hr, e⟩ := List.getElem_of_mem hk
  have hl := h.l
  have := h.own (r := r) (k := k) (by omega) (by rw [List.getElem?_eq_getElem hr, e]; rfl)
  obtain ⟨w, w1, _⟩ := chs_mem.mp this
  exact (List.getElem?_eq_some_iff.mp w1).1
theorem steps_filter (h : Plan os ws p) {r : Nat} (hr : r < os.length) : (chs ws r).filter (fun k => decide (p[r]?.getD none = none ∨ p[r]?.getD none = some k)) = stepsP ws p r := by
  unfold stepsP
  cases e : p[r]?.getD none with
  | none => exact List.filter_eq_self.mpr fun k _ => by simp
  | some k =>
    refine filter_one (chs_nodup ws r) (h.own hr e) _ fun j => ?_
    simp [eq_comm]
theorem steps_ne (V : Vl os ws) (h : Plan os ws p) {r : Nat} (hr : r < os.length) : stepsP ws p r ≠ [] := by
  unfold stepsP
  cases e : p[r]?.getD none with
  | none => exact V.ne hr
  | some k => simp
theorem steps_mem (h : Plan os ws p) {r k : Nat} (hr : r < os.length) (hk : k ∈ stepsP ws p r) : ∃ w, ws[k]? = some w ∧ w.1 = r := by
  unfold stepsP at hk
  cases e : p[r]?.getD none with
  | none => rw [e] at hk; exact chs_mem.mp hk
  | some j =>
    rw [e] at hk
    rw [List.mem_singleton.mp hk]
    exact chs_mem.mp (h.own hr e)
theorem steps_le (V : Vl os ws) (p : List (Option Nat)) (r : Nat) : (stepsP ws p r).length ≤ 24 := by
  unfold stepsP
  cases e : p[r]?.getD none with
  | none => exact Nat.le_trans (chs_len ws r) V.l2
  | some k => show 1 ≤ 24; decide
def encS3 (w : W4) : PyData := .tuple [.int (w.2.1 : Int), .int w.2.2.1, encQ w.2.2.2]
abbrev rowS3 (ws : List W4) (ks : List Nat) : PyData := .list (ks.map fun k => encS3 (ws[k]?.getD w0))
abbrev stepsD (os : List Int) (ws : List W4) (p : List (Option Nat)) : PyData := .list ((List.range os.length).map fun r => rowS3 ws (stepsP ws p r))
theorem cut_way (w : W4) : cutP [.int (w.1 : Int), .int (w.2.1 : Int), .int w.2.2.1, encQ w.2.2.2] (some 1) none = [.int (w.2.1 : Int), .int w.2.2.1, encQ w.2.2.2] := cut_hi _ 1 (by show 1 ≤ 4; decide)
/-- [ways[k][1:] for k in places] -/
theorem row_ok (ks : List Nat) (hl : ks.length ≤ 1000) (hk : ∀ k ∈ ks, k < ws.length) (ρ : Nv) (g : DL.G) (i j : Nat) (hj : j < ρ.length) (h0 : ρ[0]? = some (.sh (encL os ws))) (hi : ρ[i]? = some (.sh (.list (ks.map natD)))) (hj0 : j ≠ 0) :
    shareO (lcO (itemsD (varD i)) [j] (nameT j) yesT (slD (opD ixD (opD ixD (varD 0) (constD (.int 1))) (varD j)) (somePart (constD (.int 1))) noPart)) ρ g = .ok (rowS3 ws ks) g := by
  refine comp_pure (fi := itemsD (varD i)) (j := j) natD (fun k => encS3 (ws[k]?.getD w0)) ks (by simp [hi]) hl fun k hkk => ?_
  have hk2 := hk k hkk
  have e1 := ix_map encW4 ws k ws[k] (List.getElem?_eq_getElem hk2)
  have ej : ((ρ.set j Sl.no).set j (.sh (natD k)))[j]? = some (.sh (natD k)) := List.getElem?_set_self (by rw [List.length_set]; exact hj)
  have e0 : ((ρ.set j Sl.no).set j (.sh (natD k)))[0]? = some (.sh (encL os ws)) := by rw [List.getElem?_set_ne hj0, List.getElem?_set_ne hj0]; exact h0
  generalize (ρ.set j Sl.no).set j (.sh (natD k)) = ρ5 at ej e0 ⊢
  rw [List.getElem?_eq_getElem hk2]
  have cw := cut_way ws[k]
  show _ = DL.R.ok (encS3 ws[k]) g
  unfold encS3
  unfold encL at e0
  have et : encW4 ws[k] = .tuple [.int (ws[k].1 : Int), .int (ws[k].2.1 : Int), .int ws[k].2.2.1, encQ ws[k].2.2.2] := rfl
  generalize encW4 ws[k] = W at e1 et
  generalize encQ ws[k].2.2.2 = Q at cw et ⊢
  simp [e0, ej, e1, et, cw]
theorem stepsFrom_ok (V : Vl os ws) (h : Plan os ws p) (g : DL.G) : m_steps_from [encL os ws, plD p] g = .ok (stepsD os ws p) g := by
  have n2 := V.n2
  have l2 := V.l2
  have hl := h.l
  have hb : ((os.length : Nat) : Int) ≤ 1000000 ∧ -1000000 ≤ ((os.length : Nat) : Int) := by omega
  obtain ⟨ρ', g', h1, hg', x3, x4, rfl⟩ := forD_all (t := nameT 3) (body := seqS (setS 4 (ifD (boolD (unD isNoneD (opD ixD (varD 1) (varD 3)))) (callD 2 m_places_from (consD (varD 0) (consD (varD 3) nilD))) (shareO (lstO (consD (opD ixD (varD 1) (varD 3)) nilD)))))
    (appS 2 (shareO (lcO (itemsD (varD 4)) [5] (nameT 5) yesT (slD (opD ixD (opD ixD (varD 0) (constD (.int 1))) (varD 5)) (somePart (constD (.int 1))) noPart))))) (fun k : Nat => PyData.int (0 + (k : Int)))
    (fun pre ρ g' => g' = g ∧ ∃ x3 x4, ρ = [.sh (encL os ws), .sh (plD p), .ow (.lst (pre.map fun r => rowS3 ws (stepsP ws p r))), x3, x4, .no]) (List.range os.length) (by
      rintro pre r post e ρ g' ⟨e', x3, x4, rfl⟩
      obtain ⟨hpl, hr, _⟩ := range_pre e
      have e2 := ix_pl (p := p) (r := r) (by omega)
      have hpf := placesFrom_ok (os := os) l2 r g'
      refine ⟨[.sh (encL os ws), .sh (plD p), .ow (.lst (pre.map fun r => rowS3 ws (stepsP ws p r))), .sh (.int (r : Int)), x4, .no], [.sh (encL os ws), .sh (plD p), .ow (.lst ((pre ++ [r]).map fun r => rowS3 ws (stepsP ws p r))), .sh (.int (r : Int)), .sh (.list ((stepsP ws p r).map natD)), .no], g', by simp, .inl ?_, e', _, _, rfl⟩
      refine (seq_eq (ρ1 := [.sh (encL os ws), .sh (plD p), .ow (.lst (pre.map fun r => rowS3 ws (stepsP ws p r))), .sh (.int (r : Int)), .sh (.list ((stepsP ws p r).map natD)), .no]) (g1 := g') ?_).trans ?_
      · refine (set_ok (d := .list ((stepsP ws p r).map natD)) (g' := g') ?_).trans rfl
        unfold stepsP
        cases hk : p[r]?.getD none with
        | none =>
          rw [hk] at e2
          generalize plD p = PD at e2 ⊢
          generalize (chs ws r).map natD = CD at hpf ⊢
          generalize encL os ws = A at hpf ⊢
          simp [e2, encK, hpf]
        | some k =>
          rw [hk] at e2
          generalize plD p = PD at e2 ⊢
          generalize encL os ws = A at hpf ⊢
          simp [e2, encK]
      · have hks : ∀ k ∈ stepsP ws p r, k < ws.length := fun k hk => by
          obtain ⟨w, w1, _⟩ := steps_mem h hr hk
          exact (List.getElem?_eq_some_iff.mp w1).1
        have hrow := row_ok (os := os) (stepsP ws p r) (by have := steps_le V p r; omega) hks [.sh (encL os ws), .sh (plD p), .ow (.lst (pre.map fun r => rowS3 ws (stepsP ws p r))), .sh (.int (r : Int)), .sh (.list ((stepsP ws p r).map natD)), .no] g' 4 5 (by simp) rfl rfl (by decide)
        have hb : (pre.map fun r => rowS3 ws (stepsP ws p r)).length < 1000000 := by rw [List.length_map]; omega
        rw [List.map_append]
        show _ = SR.nx [.sh (encL os ws), .sh (plD p), .ow (.lst (pre.map (fun r => rowS3 ws (stepsP ws p r)) ++ [rowS3 ws (stepsP ws p r)])), .sh (.int (r : Int)), .sh (.list ((stepsP ws p r).map natD)), .no] g'
        generalize (pre.map fun r => rowS3 ws (stepsP ws p r)) = PL at hrow hb ⊢
        generalize rowS3 ws (stepsP ws p r) = RD at hrow ⊢
        generalize (shareO (lcO (itemsD (varD 4)) [5] (nameT 5) yesT (slD (opD ixD (opD ixD (varD 0) (constD (.int 1))) (varD 5)) (somePart (constD (.int 1))) noPart))) = E at hrow ⊢
        simp [hrow, hb, big]) (g := g) (ρ := [.sh (encL os ws), .sh (plD p), .ow (.lst []), .no, .no, .no]) ⟨rfl, _, _, rfl⟩
  rw [hg', ← upFrom_map] at h1
  unfold m_steps_from
  refine fn_rt ?_
  show b_steps_from [.sh (encL os ws), .sh (plD p), .no, .no, .no, .no] g = _
  unfold b_steps_from
  refine (seq_eq (ρ1 := [.sh (encL os ws), .sh (plD p), .ow (.lst []), .no, .no, .no]) (g1 := g) rfl).trans ?_
  refine (seq_eq (for_run (g1 := g) ?_ h1)).trans ?_
  · have hm : (p.map encK).length = os.length := by rw [List.length_map, hl]
    show rangeD (unD lenD (varD 1)) [.sh (encL os ws), .sh (.tuple (p.map encK)), .ow (.lst []), .no, .no, .no] g = _
    generalize p.map encK = D at hm ⊢
    simp [hb, big, hm]
  · rfl
theorem lawSteps_ok (V : Vl os ws) (h : Plan os ws p) (g : DL.G) : m_law_steps [encL os ws, plD p] g = .ok (stepsD os ws p) g := by
  have n2 := V.n2
  have l2 := V.l2
  have hl := h.l
  have hb : ((os.length : Nat) : Int) ≤ 1000000 ∧ -1000000 ≤ ((os.length : Nat) : Int) := by omega
  obtain ⟨ρ', g', h1, hg', x3, x4, rfl⟩ := forD_all (t := nameT 3) (body := seqS (setOS 4 (lcO (itemsD (callD 2 m_law_places (consD (varD 0) (consD (varD 3) nilD)))) [5] (nameT 5) (orT (boolD (unD isNoneD (opD ixD (varD 1) (varD 3)))) (boolD (opD eqD (opD ixD (varD 1) (varD 3)) (varD 5)))) (varD 5))) (shutS 4 (appS 2 (shareO (lcO (itemsD (varD 4)) [5] (nameT 5) yesT (slD (opD ixD (opD ixD (varD 0) (constD (.int 1))) (varD 5)) (somePart (constD (.int 1))) noPart)))))) (fun k : Nat => PyData.int (0 + (k : Int)))
    (fun pre ρ g' => g' = g ∧ ∃ x3 x4, ρ = [.sh (encL os ws), .sh (plD p), .ow (.lst (pre.map fun r => rowS3 ws (stepsP ws p r))), x3, x4, .no]) (List.range os.length) (by
      rintro pre r post e ρ g' ⟨e', x3, x4, rfl⟩
      obtain ⟨hpl, hr, _⟩ := range_pre e
      have e2 := ix_pl (p := p) (r := r) (by omega)
      have hpf := lawPlaces_ok (os := os) l2 r g'
      have hcl := chs_len ws r
      refine ⟨[.sh (encL os ws), .sh (plD p), .ow (.lst (pre.map fun r => rowS3 ws (stepsP ws p r))), .sh (.int (r : Int)), x4, .no], [.sh (encL os ws), .sh (plD p), .ow (.lst ((pre ++ [r]).map fun r => rowS3 ws (stepsP ws p r))), .sh (.int (r : Int)), .sh (.list ((stepsP ws p r).map natD)), .no], g', by simp, .inl ?_, e', _, _, rfl⟩
      refine (seq_eq (ρ1 := [.sh (encL os ws), .sh (plD p), .ow (.lst (pre.map fun r => rowS3 ws (stepsP ws p r))), .sh (.int (r : Int)), .ow (.lst ((stepsP ws p r).map natD)), .no]) (g1 := g') ?_).trans ?_
      · rw [← steps_filter h hr]
        have c := compD_pure (t := nameT 5) (cond := orT (boolD (unD isNoneD (opD ixD (varD 1) (varD 3)))) (boolD (opD eqD (opD ixD (varD 1) (varD 3)) (varD 5)))) (elt := varD 5) natD (fun k => decide (p[r]?.getD none = none ∨ p[r]?.getD none = some k)) natD (chs ws r) [.sh (encL os ws), .sh (plD p), .ow (.lst (pre.map fun r => rowS3 ws (stepsP ws p r))), .sh (.int (r : Int)), x4, .no] g' fun k _ => ⟨_, rfl, by
          generalize p[r]?.getD none = a at e2 ⊢
          generalize plD p = PD at e2 ⊢
          cases a with
          | none => simp [e2, encK]
          | some j =>
            have : (((j : Nat) : Int) = (k : Int)) ↔ j = k := by omega
            by_cases hjk : j = k
            · subst hjk; simp [e2, encK, eqD]
            · have h' : ¬ ((j : Int) = (k : Int)) := by omega
              simp [e2, encK, eqD, hjk, h'], fun _ => by
          simp⟩
        have hb3 : (chs ws r).length ≤ 1000000 := by omega
        generalize (chs ws r).filter (fun k => decide (p[r]?.getD none = none ∨ p[r]?.getD none = some k)) = L at c ⊢
        generalize (orT (boolD (unD isNoneD (opD ixD (varD 1) (varD 3)))) (boolD (opD eqD (opD ixD (varD 1) (varD 3)) (varD 5)))) = C at c ⊢
        generalize plD p = PD at c ⊢
        generalize encL os ws = A at hpf c ⊢
        generalize (pre.map fun r => rowS3 ws (stepsP ws p r)) = PL at c ⊢
        have hm : ((chs ws r).map natD).length = (chs ws r).length := List.length_map _
        rw [← hm] at hb3
        generalize (chs ws r).map natD = CD at hpf c hb3 ⊢
        simp [hpf, hb3, big, c]
      · refine (shut_eq (i := 4) (ds := (stepsP ws p r).map natD) rfl).trans ?_
        show appS 2 _ [.sh (encL os ws), .sh (plD p), .ow (.lst (pre.map fun r => rowS3 ws (stepsP ws p r))), .sh (.int (r : Int)), .sh (.list ((stepsP ws p r).map natD)), .no] g' = _
        have hks : ∀ k ∈ stepsP ws p r, k < ws.length := fun k hk => by
          obtain ⟨w, w1, _⟩ := steps_mem h hr hk
          exact (List.getElem?_eq_some_iff.mp w1).1
        have hrow := row_ok (os := os) (stepsP ws p r) (by have := steps_le V p r; omega) hks [.sh (encL os ws), .sh (plD p), .ow (.lst (pre.map fun r => rowS3 ws (stepsP ws p r))), .sh (.int (r : Int)), .sh (.list ((stepsP ws p r).map natD)), .no] g' 4 5 (by simp) rfl rfl (by decide)
        have hb : (pre.map fun r => rowS3 ws (stepsP ws p r)).length < 1000000 := by rw [List.length_map]; omega
        rw [List.map_append]
        show _ = SR.nx [.sh (encL os ws), .sh (plD p), .ow (.lst (pre.map (fun r => rowS3 ws (stepsP ws p r)) ++ [rowS3 ws (stepsP ws p r)])), .sh (.int (r : Int)), .sh (.list ((stepsP ws p r).map natD)), .no] g'
        generalize (pre.map fun r => rowS3 ws (stepsP ws p r)) = PL at hrow hb ⊢
        generalize rowS3 ws (stepsP ws p r) = RD at hrow ⊢
        generalize (shareO (lcO (itemsD (varD 4)) [5] (nameT 5) yesT (slD (opD ixD (opD ixD (varD 0) (constD (.int 1))) (varD 5)) (somePart (constD (.int 1))) noPart))) = E at hrow ⊢
        simp [hrow, hb, big]) (g := g) (ρ := [.sh (encL os ws), .sh (plD p), .ow (.lst []), .no, .no, .no]) ⟨rfl, _, _, rfl⟩
  rw [hg', ← upFrom_map] at h1
  unfold m_law_steps
  refine fn_rt ?_
  show b_law_steps [.sh (encL os ws), .sh (plD p), .no, .no, .no, .no] g = _
  unfold b_law_steps
  refine (seq_eq (ρ1 := [.sh (encL os ws), .sh (plD p), .ow (.lst []), .no, .no, .no]) (g1 := g) rfl).trans ?_
  refine (seq_eq (for_run (g1 := g) ?_ h1)).trans ?_
  · have hm : (p.map encK).length = os.length := by rw [List.length_map, hl]
    show rangeD (unD lenD (varD 1)) [.sh (encL os ws), .sh (.tuple (p.map encK)), .ow (.lst []), .no, .no, .no] g = _
    generalize p.map encK = D at hm ⊢
    simp [hb, big, hm]
  · rfl
end
end K

set_option Elab.async false
set_option linter.all false
set_option maxRecDepth 100000
set_option maxHeartbeats 400000
namespace K
open PySem DL PyProof.Rows
/-! ### spreads -/
theorem bdx {t M : Nat} {q : Rat} (h : Sz (Lc ^ t) M q) (ht : t ≤ 60) (hm : M ≤ 2 ^ 3000) : Bd q := by
  have h1 : Lc ^ t ≤ (2 ^ 28) ^ t := Nat.pow_le_pow_left (by decide) t
  rw [← Nat.pow_mul] at h1
  have h2 : (2 : Nat) ^ (28 * t) < 2 ^ 4000 := Nat.pow_lt_pow_right (by decide) (by omega)
  have h3 : (2 : Nat) ^ 3000 < 2 ^ 4000 := Nat.pow_lt_pow_right (by decide) (by decide)
  exact h.bd (Nat.pow_pos (by decide)) (Nat.lt_of_le_of_lt h1 h2) (Nat.lt_of_le_of_lt hm h3)
def Kt (t : Nat) : Nat := 2 ^ (36 * t) * Lc
theorem kt_le (t c : Nat) (hc : c ≤ 256) : c * Kt t ≤ 2 ^ (36 * (t + 1)) := by
  have h1 : c * Kt t ≤ 2 ^ 8 * (2 ^ (36 * t) * 2 ^ 28) := Nat.mul_le_mul hc (Nat.mul_le_mul_left _ (by decide))
  have h2 : (2 : Nat) ^ 8 * (2 ^ (36 * t) * 2 ^ 28) = 2 ^ (36 * (t + 1)) := by
    rw [← Nat.pow_add, ← Nat.pow_add]
    congr 1
    omega
  omega
theorem p3000 {m : Nat} (h : m ≤ 3000) : (2 : Nat) ^ m ≤ 2 ^ 3000 := Nat.pow_le_pow_right (by decide) h
/-- one step adds -/
def addS (x : Rat) (f : List Rat) (w : W4) : List Rat := f.set w.2.1 ((f[w.2.1]?.getD 0) + x * w.2.2.2)
def wS (x : Rat) (s : Rat) (w : W4) : Rat := s + x * w.2.2.2 * (w.2.2.1 : Rat)
structure Fs (D c K n : Nat) (f : List Rat) : Prop where
  l : f.length = n
  s : ∀ y ∈ f, Sz D (c * K) y
theorem Fs.at {D c K n : Nat} {f : List Rat} (h : Fs D c K n f) (j : Nat) : Sz D (c * K) (f[j]?.getD 0) := by
  by_cases hj : j < f.length
  · rw [List.getElem?_eq_getElem hj]
    exact h.s _ (List.getElem_mem hj)
  · rw [List.getElem?_eq_none (by omega)]
    exact Sz.zero _ _
theorem Fs.add {D c K n : Nat} {f : List Rat} {x : Rat} {w : W4} (hD : 0 < D) (h : Fs D c K n f) (hx : Sz D K (x * w.2.2.2)) : Fs D (c + 1) K n (addS x f w) := by
  refine ⟨by unfold addS; rw [List.length_set]; exact h.l, fun y hy => ?_⟩
  unfold addS at hy
  rcases List.mem_or_eq_of_mem_set hy with z | z
  · exact (h.s y z).mono (Nat.mul_le_mul_right _ (Nat.le_succ c))
  · rw [z, Nat.succ_mul]
    exact (h.at _).add hD hx
theorem Fs.up {D c c' K n : Nat} {f : List Rat} (h : Fs D c K n f) (hc : c ≤ c') : Fs D c' K n f := ⟨h.l, fun y hy => (h.s y hy).mono (Nat.mul_le_mul_right _ hc)⟩
/-- a way that may be gone -/
structure Wok (n : Nat) (w : W4) : Prop where
  t : w.2.1 < n
  a : -8 ≤ w.2.2.1 ∧ w.2.2.1 ≤ 8
  q : Share w.2.2.2
theorem atQ {f : List Rat} {j : Nat} (hj : j < f.length) : L2.atI (f.map encQ) (j : Int) = some (encQ (f[j]?.getD 0)) := L2.atI_nat (by
  rw [List.getElem?_map, List.getElem?_eq_getElem hj]; rfl)
theorem ixNn {n r : Nat} (h : r < n) : L2.ixN n (r : Int) = some r := by
  have := L2.atI_nat (xs := List.range n) (j := r) (v := r) (List.getElem?_range h)
  unfold L2.atI at this
  rw [List.length_range] at this
  cases e : L2.ixN n (r : Int) with
  | none => rw [e] at this; cases this
  | some k =>
    rw [e] at this
    have hk : (List.range n)[k]? = some r := this
    obtain ⟨h1, h2⟩ := List.getElem?_eq_some_iff.mp hk
    rw [List.getElem_range] at h2
    rw [h2]
abbrev t456 : Tg := tupT (consT (nameT 4) (consT (nameT 5) (consT (nameT 6) nilT)))
noncomputable abbrev nxB : Sm := setIxS 2 (varD 4) (callD 2 m_plus (consD (ixO 2 (varD 4)) (consD (callD 2 m_times (consD (opD ixD (varD 1) (varD 3)) (consD (varD 6) nilD))) nilD)))
theorem nx_inner {t n : Nat} (ht : t ≤ 45) (S : Sl) (v : List Rat) (r : Nat) (hr : r < v.length) (hx : Sz (Lc ^ t) (2 ^ (36 * t)) (v[r]?.getD 0)) (g : DL.G) : ∀ (ws' : List W4) (f : List Rat) (c : Nat), (∀ w ∈ ws', Wok n w) → Fs (Lc ^ (t + 1)) c (Kt t) n f → c + ws'.length ≤ 200 → ∀ x4 x5 x6,
    ∃ y4 y5 y6, forD t456 nxB (ws'.map encS3) [S, .sh (.list (v.map encQ)), .ow (.lst (f.map encQ)), .sh (.int (r : Int)), x4, x5, x6] g = .nx [S, .sh (.list (v.map encQ)), .ow (.lst ((ws'.foldl (addS (v[r]?.getD 0)) f).map encQ)), .sh (.int (r : Int)), y4, y5, y6] g ∧ Fs (Lc ^ (t + 1)) (c + ws'.length) (Kt t) n (ws'.foldl (addS (v[r]?.getD 0)) f)
  | [], f, c, _, hf, _, x4, x5, x6 => ⟨x4, x5, x6, rfl, hf⟩
  | w :: ws', f, c, hw, hf, hc, x4, x5, x6 => by
    have h1 := hw w List.mem_cons_self
    rw [List.length_cons] at hc
    have hq : Sz (Lc ^ (t + 1)) (Kt t) (v[r]?.getD 0 * w.2.2.2) := by
      have := hx.mul h1.q.sz
      rw [← Nat.pow_succ] at this
      exact this
    have hf2 := hf.add (Nat.pow_pos (by decide)) hq
    obtain ⟨y4, y5, y6, e, hf3⟩ := nx_inner ht S v r hr hx g ws' (addS (v[r]?.getD 0) f w) (c + 1) (fun z hz => hw z (List.mem_cons_of_mem _ hz)) hf2 (by omega) (.sh (.int (w.2.1 : Int))) (.sh (.int w.2.2.1)) (.sh (encQ w.2.2.2))
    refine ⟨y4, y5, y6, ?_, by rw [List.foldl_cons, List.length_cons, show c + (ws'.length + 1) = c + 1 + ws'.length by omega]; exact hf3⟩
    rw [List.map_cons, List.foldl_cons]
    have e1 : t456 (encS3 w) [S, .sh (.list (v.map encQ)), .ow (.lst (f.map encQ)), .sh (.int (r : Int)), x4, x5, x6] = some [S, .sh (.list (v.map encQ)), .ow (.lst (f.map encQ)), .sh (.int (r : Int)), .sh (.int (w.2.1 : Int)), .sh (.int w.2.2.1), .sh (encQ w.2.2.2)] := rfl
    have e2 : nxB [S, .sh (.list (v.map encQ)), .ow (.lst (f.map encQ)), .sh (.int (r : Int)), .sh (.int (w.2.1 : Int)), .sh (.int w.2.2.1), .sh (encQ w.2.2.2)] g = .nx [S, .sh (.list (v.map encQ)), .ow (.lst ((addS (v[r]?.getD 0) f w).map encQ)), .sh (.int (r : Int)), .sh (.int (w.2.1 : Int)), .sh (.int w.2.2.1), .sh (encQ w.2.2.2)] g := by
      have hfl : w.2.1 < f.length := by rw [hf.l]; exact h1.t
      have a1 : ixD (.list (v.map encQ)) (.int (r : Int)) = some (encQ (v[r]?.getD 0)) := atQ hr
      have a2 := atQ hfl
      have bx := bdx hx (by omega) (p3000 (by omega))
      have bq := bdx hq (by omega) (by have := kt_le t 1 (by decide); rw [Nat.one_mul] at this; exact Nat.le_trans this (p3000 (by omega)))
      have bf := bdx (hf.at w.2.1) (by omega) (Nat.le_trans (kt_le t c (by omega)) (p3000 (by omega)))
      obtain ⟨_, o2, _, _⟩ := ops_ok bx h1.q.bd g
      obtain ⟨o1, _, _, _⟩ := ops_ok bf bq g
      have a3 : L2.ixN (f.map encQ).length (w.2.1 : Int) = some w.2.1 := by rw [List.length_map]; exact ixNn hfl
      have a4 : (addS (v[r]?.getD 0) f w).map encQ = (f.map encQ).set w.2.1 (encQ (f[w.2.1]?.getD 0 + v[r]?.getD 0 * w.2.2.2)) := by unfold addS; rw [List.map_set]
      rw [a4]
      generalize encQ (f[w.2.1]?.getD 0 + v[r]?.getD 0 * w.2.2.2) = z1 at o1 ⊢
      generalize encQ (v[r]?.getD 0 * w.2.2.2) = z2 at o1 o2
      generalize encQ (f[w.2.1]?.getD 0) = z3 at a2 o1
      generalize encQ (v[r]?.getD 0) = z4 at a1 o2
      generalize encQ w.2.2.2 = z5 at o2 ⊢
      generalize f.map encQ = FD at a2 a3 ⊢
      generalize v.map encQ = VD at a1 ⊢
      generalize w.2.1 = tt at a2 a3 ⊢
      have a5 : ixO 2 (varD 4) [S, .sh (.list VD), .ow (.lst FD), .sh (.int (r : Int)), .sh (.int (tt : Int)), .sh (.int w.2.2.1), .sh z5] g = .ok z3 g := by
        unfold ixO
        simp [a2]
      have a6 : callD 2 m_plus (consD (ixO 2 (varD 4)) (consD (callD 2 m_times (consD (opD ixD (varD 1) (varD 3)) (consD (varD 6) nilD))) nilD)) [S, .sh (.list VD), .ow (.lst FD), .sh (.int (r : Int)), .sh (.int (tt : Int)), .sh (.int w.2.2.1), .sh z5] g = .ok z1 g := by
        generalize ixO 2 (varD 4) = X at a5 ⊢
        simp [a1, a5, o2, o1]
      unfold nxB setIxS stE
      rw [a6]
      simp [a3]
    rw [forD, e1]
    generalize nxB = B at e e2 ⊢
    simp only [e2]
    exact e
/-- one spread behind another -/
def nextP (os : List Int) (ws : List W4) (p : List (Option Nat)) (v : List Rat) : List Rat := (List.range os.length).foldl (fun f r => ((stepsP ws p r).map fun k => ws[k]?.getD w0).foldl (addS (v[r]?.getD 0)) f) (List.replicate os.length 0)
section
variable {os : List Int} {ws : List W4} {p : List (Option Nat)}
theorem row_enc (ks : List Nat) : rowS3 ws ks = .list ((ks.map fun k => ws[k]?.getD w0).map encS3) := by
  rw [List.map_map]
  rfl
theorem row_w (V : Vl os ws) (h : Plan os ws p) {r : Nat} (hr : r < os.length) : ∀ w ∈ (stepsP ws p r).map fun k => ws[k]?.getD w0, Wok os.length w := fun w hw => by
  obtain ⟨k, hk, rfl⟩ := List.mem_map.mp hw
  obtain ⟨w, w1, _⟩ := steps_mem h hr hk
  rw [w1]
  have hm := List.mem_of_getElem? w1
  obtain ⟨_, h2, h3, h4⟩ := V.w w hm
  exact ⟨h2, ⟨h3, h4⟩, V.q w hm⟩
theorem rowlen (V : Vl os ws) (r : Nat) : ((stepsP ws p r).map fun k => ws[k]?.getD w0).length ≤ 24 := by
  rw [List.length_map]
  exact steps_le V p r
structure Sp (t n : Nat) (v : List Rat) : Prop where
  l : v.length = n
  s : ∀ y ∈ v, Sz (Lc ^ t) (2 ^ (36 * t)) y
theorem Sp.at {t n : Nat} {v : List Rat} (h : Sp t n v) (j : Nat) : Sz (Lc ^ t) (2 ^ (36 * t)) (v[j]?.getD 0) := by
  by_cases hj : j < v.length
  · rw [List.getElem?_eq_getElem hj]
    exact h.s _ (List.getElem_mem hj)
  · rw [List.getElem?_eq_none (by omega)]
    exact Sz.zero _ _
theorem zero_fs (D K n : Nat) : Fs D 0 K n (List.replicate n 0) := ⟨List.length_replicate, fun y hy => by rw [(List.mem_replicate.mp hy).2]; exact Sz.zero _ _⟩
theorem rep_enc (n : Nat) (q : Rat) : (List.replicate n q).map encQ = List.replicate n (encQ q) := List.map_replicate
theorem mulO_ok {a e : Ex} {d : PyData} {n : Nat} {ρ : Nv} {g : DL.G} (ha : a ρ g = .ok (.list [d]) g) (h : e ρ g = .ok (.int (n : Int)) g) (hn : n ≤ 1000) : mulO a e ρ g = .ok (.lst (List.replicate n d)) g := by
  unfold mulO
  rw [ha]
  simp only [R.bind_ok]
  rw [h]
  show (if -1000000 ≤ (n : Int) ∧ (n : Int) ≤ 1000000 ∧ [d].length * ((n : Int)).toNat ≤ big then R.ok (Ob.lst (List.replicate ((n : Int)).toNat [d]).flatten) g else R.bad) = _
  rw [if_pos ⟨by omega, by omega, by show 1 * ((n : Int)).toNat ≤ 1000000; omega⟩, show ((n : Int)).toNat = n by omega, fill_one]
theorem next_ok (V : Vl os ws) (h : Plan os ws p) {t : Nat} (ht : t ≤ 45) {v : List Rat} (hv : Sp t os.length v) (g : DL.G) : m_next_spread [stepsD os ws p, .list (v.map encQ)] g = .ok (.list ((nextP os ws p v).map encQ)) g ∧ Sp (t + 1) os.length (nextP os ws p v) := by
  have n2 := V.n2
  have hb : ((os.length : Nat) : Int) ≤ 1000000 ∧ -1000000 ≤ ((os.length : Nat) : Int) := by omega
  obtain ⟨ρ', g', h1, hg', f, x3, x4, x5, x6, rfl, hf, rfl⟩ := forD_all (t := nameT 3) (body := forS (itemsD (opD ixD (varD 0) (varD 3))) t456 nxB) (fun k : Nat => PyData.int (0 + (k : Int)))
    (fun pre ρ g' => g' = g ∧ ∃ f x3 x4 x5 x6, ρ = [.sh (stepsD os ws p), .sh (.list (v.map encQ)), .ow (.lst (f.map encQ)), x3, x4, x5, x6] ∧ Fs (Lc ^ (t + 1)) (24 * pre.length) (Kt t) os.length f ∧ f = pre.foldl (fun f r => ((stepsP ws p r).map fun k => ws[k]?.getD w0).foldl (addS (v[r]?.getD 0)) f) (List.replicate os.length 0)) (List.range os.length) (by
      rintro pre r post e ρ g' ⟨e', f, x3, x4, x5, x6, rfl, hf, hfe⟩
      obtain ⟨hpl, hr, _⟩ := range_pre e
      have hl := rowlen (p := p) V r
      obtain ⟨y4, y5, y6, hin, hf2⟩ := nx_inner ht (.sh (stepsD os ws p)) v r (by rw [hv.l]; exact hr) (hv.at r) g' ((stepsP ws p r).map fun k => ws[k]?.getD w0) f (24 * pre.length) (row_w V h hr) hf (by omega) x4 x5 x6
      refine ⟨[.sh (stepsD os ws p), .sh (.list (v.map encQ)), .ow (.lst (f.map encQ)), .sh (.int (r : Int)), x4, x5, x6], _, g', by simp, .inl (for_run (g1 := g') ?_ hin), e', _, _, _, _, _, rfl, hf2.up (by rw [List.length_append]; show _ ≤ 24 * (pre.length + 1); omega), by rw [List.foldl_append, ← hfe]; rfl⟩
      have e1 : ixD (stepsD os ws p) (.int (r : Int)) = some (rowS3 ws (stepsP ws p r)) := ix_mapl (fun r => rowS3 ws (stepsP ws p r)) (List.range os.length) r r (List.getElem?_range hr)
      rw [row_enc] at e1
      generalize stepsD os ws p = SD at e1 ⊢
      simp [e1]) (g := g) (ρ := [.sh (stepsD os ws p), .sh (.list (v.map encQ)), .ow (.lst ((List.replicate os.length (0 : Rat)).map encQ)), .no, .no, .no, .no]) ⟨rfl, _, _, _, _, _, rfl, zero_fs _ _ _, rfl⟩
  rw [hg', ← upFrom_map] at h1
  rw [List.length_range] at hf
  constructor
  · unfold m_next_spread
    refine fn_rt ?_
    show b_next_spread [.sh (stepsD os ws p), .sh (.list (v.map encQ)), .no, .no, .no, .no, .no] g = _
    unfold b_next_spread
    have hlen : ((v.map encQ).length : Int) = (os.length : Int) := by rw [List.length_map, hv.l]
    refine (seq_eq (ρ1 := [.sh (stepsD os ws p), .sh (.list (v.map encQ)), .ow (.lst ((List.replicate os.length (0 : Rat)).map encQ)), .no, .no, .no, .no]) (g1 := g) ?_).trans ?_
    · have m := mulO_ok (a := shareO (lstO (consD (tupD (consD (constD (.int 0)) (consD (constD (.int 1)) nilD))) nilD))) (e := unD lenD (varD 1)) (d := encQ 0) (n := os.length) (ρ := [.sh (stepsD os ws p), .sh (.list (v.map encQ)), .no, .no, .no, .no, .no]) (g := g) rfl (by
        generalize v.map encQ = VD at hlen ⊢
        simp [hlen]) (by omega)
      rw [rep_enc]
      unfold setOS
      rw [m]
      rfl
    refine (seq_eq (for_run (g1 := g) (by
      generalize v.map encQ = VD at hlen ⊢
      simp [hlen, hb, big]) h1)).trans ?_
    rfl
  · have hle := kt_le t (24 * os.length) (by omega)
    exact ⟨hf.l, fun y hy => (hf.s y hy).mono hle⟩
end
end K

set_option Elab.async false
set_option linter.all false
set_option maxRecDepth 100000
set_option maxHeartbeats 400000
namespace K
open PySem DL PyProof.Rows
section
variable {os : List Int} {ws : List W4} {p : List (Option Nat)}
theorem atLast (l : List PyData) (x : PyData) : L2.atI (l ++ [x]) (-1) = some x := by
  have h : L2.ixN (l ++ [x]).length (-1) = some l.length := by
    unfold L2.ixN
    have hl : (l ++ [x]).length = l.length + 1 := by rw [List.length_append]; rfl
    rw [hl, if_neg (by decide), if_pos (by omega)]
    congr 1
    omega
  unfold L2.atI
  rw [h]
  simp
def spreadP (os : List Int) (ws : List W4) (p : List (Option Nat)) (room : Nat) : Nat → List Rat
  | 0 => (List.range os.length).map fun o => if o = room then 1 else 0
  | t + 1 => nextP os ws p (spreadP os ws p room t)
theorem spread_sp (V : Vl os ws) (h : Plan os ws p) (room : Nat) : ∀ t, t ≤ 46 → Sp t os.length (spreadP os ws p room t)
  | 0, _ => by
    refine ⟨by show ((List.range os.length).map _).length = _; rw [List.length_map, List.length_range], fun y hy => ?_⟩
    obtain ⟨o, _, rfl⟩ := List.mem_map.mp hy
    split
    · exact ⟨1, (Rat.mkRat_one 1).symm, by decide⟩
    · exact Sz.zero _ _
  | t + 1, ht => (next_ok V h (by omega) (spread_sp V h room t (by omega)) none).2
abbrev vD (v : List Rat) : PyData := .list (v.map encQ)
theorem spreads_ok (V : Vl os ws) (h : Plan os ws p) {room : Nat} (hr : room < os.length) {k : Nat} (hk : k ≤ 40) (g : DL.G) : m_spreads [encL os ws, plD p, .int (room : Int), .int (k : Int)] g = .ok (.list ((List.range (k + 1)).map fun t => vD (spreadP os ws p room t))) g := by
  have n2 := V.n2
  have hb : ((os.length : Nat) : Int) ≤ 1000000 ∧ -1000000 ≤ ((os.length : Nat) : Int) := by omega
  have hbk : ((k : Nat) : Int) ≤ 1000000 ∧ -1000000 ≤ ((k : Nat) : Int) := by omega
  have hs := stepsFrom_ok V h g
  let st : Ob → Sl → Nv := fun o x => [.sh (encL os ws), .sh (plD p), .sh (.int (room : Int)), .sh (.int (k : Int)), .sh (stepsD os ws p), .ow o, x, .no]
  obtain ⟨ρ', g', h1, hg', x, rfl⟩ := forD_all (t := nameT 6) (body := appS 5 (callD 2 m_next_spread (consD (varD 4) (consD (ixO 5 (unD negD (constD (.int 1)))) nilD)))) (fun k : Nat => PyData.int (0 + (k : Int)))
    (fun pre ρ g' => g' = g ∧ ∃ x, ρ = st (.lst ((List.range (pre.length + 1)).map fun t => vD (spreadP os ws p room t))) x) (List.range k) (by
      rintro pre t post e ρ g' ⟨e', x, rfl⟩
      obtain ⟨hpl, ht, _⟩ := range_pre e
      rw [hpl, show (pre ++ [t]).length = t + 1 by rw [List.length_append, hpl]; rfl]
      refine ⟨st (.lst ((List.range (t + 1)).map fun t => vD (spreadP os ws p room t))) (.sh (.int (t : Int))), st (.lst ((List.range (t + 1 + 1)).map fun t => vD (spreadP os ws p room t))) (.sh (.int (t : Int))), g', by show some _ = some _; rw [show (0 : Int) + (t : Int) = (t : Int) by omega]; rfl, .inl ?_, e', _, rfl⟩
      have hn := (next_ok V h (t := t) (by omega) (spread_sp V h room t (by omega)) g').1
      have hl := atLast ((List.range t).map fun t => vD (spreadP os ws p room t)) (vD (spreadP os ws p room t))
      rw [List.range_succ, List.map_append]
      rw [List.range_succ (n := t + 1), List.map_append, List.range_succ, List.map_append]
      show appS 5 _ (st (.lst ((List.range t).map (fun t => vD (spreadP os ws p room t)) ++ [vD (spreadP os ws p room t)])) (.sh (.int (t : Int)))) g' = .nx (st (.lst ((List.range t).map (fun t => vD (spreadP os ws p room t)) ++ [vD (spreadP os ws p room t)] ++ [vD (nextP os ws p (spreadP os ws p room t))])) (.sh (.int (t : Int)))) g'
      have hlen : ((List.range t).map (fun t => vD (spreadP os ws p room t)) ++ [vD (spreadP os ws p room t)]).length < 1000000 := by
        rw [List.length_append, List.length_map, List.length_range]; show t + 1 < _; omega
      replace hn : m_next_spread [stepsD os ws p, vD (spreadP os ws p room t)] g' = .ok (vD (nextP os ws p (spreadP os ws p room t))) g' := hn
      generalize vD (nextP os ws p (spreadP os ws p room t)) = D2 at hn ⊢
      generalize vD (spreadP os ws p room t) = D1 at hn hl hlen ⊢
      generalize (List.range t).map (fun t => vD (spreadP os ws p room t)) ++ [D1] = L at hl hlen ⊢
      show appS 5 _ [.sh (encL os ws), .sh (plD p), .sh (.int (room : Int)), .sh (.int (k : Int)), .sh (stepsD os ws p), .ow (.lst L), .sh (.int (t : Int)), .no] g' = .nx [.sh (encL os ws), .sh (plD p), .sh (.int (room : Int)), .sh (.int (k : Int)), .sh (stepsD os ws p), .ow (.lst (L ++ [D2])), .sh (.int (t : Int)), .no] g'
      generalize stepsD os ws p = SD at hn ⊢
      have a5 : ixO 5 (unD negD (constD (.int 1))) [.sh (encL os ws), .sh (plD p), .sh (.int (room : Int)), .sh (.int (k : Int)), .sh SD, .ow (.lst L), .sh (.int (t : Int)), .no] g' = .ok D1 g' := by
        unfold ixO
        simp [hl]
      generalize ixO 5 (unD negD (constD (.int 1))) = X at a5 ⊢
      simp [a5, hn, hlen, big]) (g := g) (ρ := st (.lst ((List.range 1).map fun t => vD (spreadP os ws p room t))) .no) ⟨rfl, _, rfl⟩
  rw [hg', List.length_range, ← upFrom_map] at h1
  unfold m_spreads
  refine fn_rt ?_
  show b_spreads [.sh (encL os ws), .sh (plD p), .sh (.int (room : Int)), .sh (.int (k : Int)), .no, .no, .no, .no] g = _
  unfold b_spreads
  refine (seq_eq (ρ1 := [.sh (encL os ws), .sh (plD p), .sh (.int (room : Int)), .sh (.int (k : Int)), .sh (stepsD os ws p), .no, .no, .no]) (g1 := g) ?_).trans ?_
  · refine (set_ok (d := stepsD os ws p) (g' := g) ?_).trans rfl
    generalize plD p = PD at hs ⊢
    generalize encL os ws = A at hs ⊢
    generalize stepsD os ws p = SD at hs ⊢
    simp [hs]
  refine (seq_eq (ρ1 := st (.lst ((List.range 1).map fun t => vD (spreadP os ws p room t))) .no) (g1 := g) ?_).trans ?_
  · have c := comp_pure (fi := rangeD (unD lenD (varD 4))) (j := 7) (e := ifD (boolD (opD eqD (varD 7) (varD 2))) (tupD (consD (constD (.int 1)) (consD (constD (.int 1)) nilD))) (tupD (consD (constD (.int 0)) (consD (constD (.int 1)) nilD)))) (fun k : Nat => PyData.int (0 + (k : Int))) (fun o => encQ (if o = room then 1 else 0)) (List.range os.length) (ρ := [.sh (encL os ws), .sh (plD p), .sh (.int (room : Int)), .sh (.int (k : Int)), .sh (stepsD os ws p), .no, .no, .no]) (g := g) (by
        rw [← upFrom_map]
        simp [hb, big]) (by rw [List.length_range]; omega) fun o _ => by
      show ifD _ _ _ [.sh (encL os ws), .sh (plD p), .sh (.int (room : Int)), .sh (.int (k : Int)), .sh (stepsD os ws p), .no, .no, .sh (.int (0 + (o : Int)))] g = _
      rw [show (0 : Int) + (o : Int) = (o : Int) by omega]
      by_cases ho : o = room
      · subst ho
        simp [eqD, encQ]
      · have : ¬ ((o : Int) = (room : Int)) := by omega
        simp [eqD, this, ho, encQ]
    have e : ((List.range 1).map fun t => vD (spreadP os ws p room t)) = [.list ((List.range os.length).map fun o => encQ (if o = room then 1 else 0))] := by
      show [vD ((List.range os.length).map fun o => if o = room then 1 else 0)] = _
      unfold vD
      rw [List.map_map]
      rfl
    rw [e]
    unfold setOS
    have := lst_ok (cons_ok c (es := nilD) (ds := []) rfl) (by show 1 ≤ 1000; decide)
    rw [this]
    rfl
  refine (seq_eq (for_run (g1 := g) (by
    show rangeD (varD 3) [.sh (encL os ws), .sh (plD p), .sh (.int (room : Int)), .sh (.int (k : Int)), .sh (stepsD os ws p), .ow (.lst ((List.range 1).map fun t => vD (spreadP os ws p room t))), .no, .no] g = _
    simp [hbk, big]) h1)).trans ?_
  rfl
theorem checkSteps_ok {k : Nat} (hk : k ≤ 40) (g : DL.G) : m_check_steps [.int (k : Int)] g = .ok .none g := by
  have := within_ok (v := (k : Int)) (a := 0) (b := 40) ⟨by omega, by omega⟩ g
  simp [m_check_steps, b_check_steps, this]
theorem stepsAt_ok (V : Vl os ws) (h : Plan os ws p) {room : Nat} (hr : room < os.length) {k : Nat} (hk : k ≤ 40) (g : DL.G) : m_steps_at [encL os ws, plD p, .int (room : Int), .int (k : Int)] g = .ok (vD (spreadP os ws p room k)) g := by
  have c1 := checkChoice_ok V h g
  have c2 := checkRoom_ok (ws := ws) hr g
  have c3 := checkSteps_ok hk g
  have hs := spreads_ok V h hr hk g
  have hl := atLast ((List.range k).map fun t => vD (spreadP os ws p room t)) (vD (spreadP os ws p room k))
  rw [List.range_succ, List.map_append] at hs
  replace hs : m_spreads [encL os ws, plD p, .int (room : Int), .int (k : Int)] g = .ok (.list ((List.range k).map (fun t => vD (spreadP os ws p room t)) ++ [vD (spreadP os ws p room k)])) g := hs
  generalize vD (spreadP os ws p room k) = D1 at hs hl ⊢
  generalize (List.range k).map (fun t => vD (spreadP os ws p room t)) ++ [D1] = L at hs hl
  generalize encL os ws = A at c1 c2 hs ⊢
  generalize plD p = PD at c1 hs ⊢
  have hl : ixD (.list L) (.int (-1)) = some D1 := hl
  simp [m_steps_at, b_steps_at, c1, c2, c3, hs, hl]
end
end K

set_option Elab.async false
set_option linter.all false
set_option maxRecDepth 100000
set_option maxHeartbeats 400000
namespace K
open PySem DL PyProof.Rows
/-! ### the mean amount -/
def Wt (t c : Nat) : Nat := 2 ^ (40 * t + 4) * Lc + c * (Kt t * 8)
theorem wt_le (t c : Nat) (hc : c ≤ 256) : Wt t c ≤ 2 ^ (40 * (t + 1) + 4) := by
  have h1 : 2 ^ (40 * t + 4) * Lc ≤ 2 ^ (40 * t + 4) * 2 ^ 28 := Nat.mul_le_mul_left _ (by decide)
  have h2 : c * (Kt t * 8) ≤ 2 ^ 8 * (2 ^ (36 * t) * 2 ^ 28 * 2 ^ 3) := by
    refine Nat.mul_le_mul hc (Nat.mul_le_mul ?_ (by decide))
    exact Nat.mul_le_mul_left _ (by decide)
  have e1 : (2 : Nat) ^ (40 * t + 4) * 2 ^ 28 = 2 ^ (40 * t + 32) := by rw [← Nat.pow_add]
  have e2 : (2 : Nat) ^ 8 * (2 ^ (36 * t) * 2 ^ 28 * 2 ^ 3) = 2 ^ (36 * t + 39) := by
    rw [← Nat.pow_add, ← Nat.pow_add, ← Nat.pow_add]
    congr 1
    omega
  have h3 : (2 : Nat) ^ (40 * t + 32) ≤ 2 ^ (40 * t + 43) := Nat.pow_le_pow_right (by decide) (by omega)
  have h4 : (2 : Nat) ^ (36 * t + 39) ≤ 2 ^ (40 * t + 43) := Nat.pow_le_pow_right (by decide) (by omega)
  have h5 : (2 : Nat) ^ (40 * (t + 1) + 4) = 2 ^ (40 * t + 43) * 2 := by rw [← Nat.pow_succ]; congr 1
  have h6 : 2 ^ (40 * t + 4) * Lc ≤ 2 ^ (40 * t + 43) := Nat.le_trans h1 (by rw [e1]; exact h3)
  have h7 : c * (Kt t * 8) ≤ 2 ^ (40 * t + 43) := Nat.le_trans h2 (by rw [e2]; exact h4)
  have h8 := Nat.add_le_add h6 h7
  rw [h5, Nat.mul_two]
  exact h8
theorem wt_mono {t c c' : Nat} (h : c ≤ c') : Wt t c ≤ Wt t c' := by
  unfold Wt
  exact Nat.add_le_add_left (Nat.mul_le_mul_right _ h) _
theorem amt_sz {n : Nat} {w : W4} (h : Wok n w) : Sz 1 8 (w.2.2.1 : Rat) := by
  have := Sz.int w.2.2.1
  have h := h.a
  exact this.mono (by omega)
theorem amt_bd {n : Nat} {w : W4} (h : Wok n w) : Bd (w.2.2.1 : Rat) := by
  have b : (8 : Nat) < 2 ^ 4000 := Nat.lt_of_lt_of_le (show 8 < 2 ^ 5 by decide) (Nat.pow_le_pow_right (by decide) (by decide))
  exact (amt_sz h).bd (by decide) (by omega) b
theorem prod_sz {t n : Nat} {x : Rat} {w : W4} (hx : Sz (Lc ^ t) (2 ^ (36 * t)) x) (h : Wok n w) : Sz (Lc ^ (t + 1)) (Kt t) (x * w.2.2.2) ∧ Sz (Lc ^ (t + 1)) (Kt t * 8) (x * w.2.2.2 * (w.2.2.1 : Rat)) := by
  have h1 := hx.mul h.q.sz
  rw [← Nat.pow_succ] at h1
  have h2 := h1.mul (amt_sz h)
  rw [Nat.mul_one] at h2
  exact ⟨h1, h2⟩
theorem prod_bd {t n : Nat} (ht : t ≤ 45) {x : Rat} {w : W4} (hx : Sz (Lc ^ t) (2 ^ (36 * t)) x) (h : Wok n w) : Bd x ∧ Bd (x * w.2.2.2) ∧ Bd (x * w.2.2.2 * (w.2.2.1 : Rat)) := by
  obtain ⟨h1, h2⟩ := prod_sz hx h
  refine ⟨bdx hx (by omega) (p3000 (by omega)), bdx h1 (by omega) ?_, bdx h2 (by omega) ?_⟩
  · have := kt_le t 1 (by decide)
    rw [Nat.one_mul] at this
    exact Nat.le_trans this (p3000 (by omega))
  · have := kt_le t 8 (by decide)
    rw [Nat.mul_comm] at this
    exact Nat.le_trans this (p3000 (by omega))
theorem ws_sz {t n c : Nat} {x s : Rat} {w : W4} (hx : Sz (Lc ^ t) (2 ^ (36 * t)) x) (h : Wok n w) (hs : Sz (Lc ^ (t + 1)) (Wt t c) s) : Sz (Lc ^ (t + 1)) (Wt t (c + 1)) (wS x s w) := by
  have := hs.add (Nat.pow_pos (by decide)) (prod_sz hx h).2
  have e : Wt t c + Kt t * 8 = Wt t (c + 1) := by
    unfold Wt
    rw [Nat.add_mul c 1 (Kt t * 8), Nat.one_mul, Nat.add_assoc]
  rw [e] at this
  exact this
theorem amt_enc (a : Int) : PyData.tuple [.int a, .int 1] = encQ (a : Rat) := rfl
abbrev t8910 : Tg := tupT (consT (nameT 8) (consT (nameT 9) (consT (nameT 10) nilT)))
noncomputable abbrev amB : Sm := setS 5 (callD 2 m_plus (consD (varD 5) (consD (callD 2 m_times (consD (opD ixD (varD 6) (varD 7)) (consD (callD 2 m_times (consD (tupD (consD (varD 9) (consD (constD (.int 1)) nilD))) (consD (varD 10) nilD))) nilD))) nilD)))
theorem am_inner {t n : Nat} (ht : t ≤ 45) (a0 a1 a2 a3 a4 : Sl) (v : List Rat) (r : Nat) (hr : r < v.length) (hx : Sz (Lc ^ t) (2 ^ (36 * t)) (v[r]?.getD 0)) (g : DL.G) : ∀ (ws' : List W4) (s : Rat) (c : Nat), (∀ w ∈ ws', Wok n w) → Sz (Lc ^ (t + 1)) (Wt t c) s → c + ws'.length ≤ 200 → ∀ x8 x9 x10,
    ∃ y8 y9 y10, forD t8910 amB (ws'.map encS3) [a0, a1, a2, a3, a4, .sh (encQ s), .sh (vD v), .sh (.int (r : Int)), x8, x9, x10] g = .nx [a0, a1, a2, a3, a4, .sh (encQ (ws'.foldl (wS (v[r]?.getD 0)) s)), .sh (vD v), .sh (.int (r : Int)), y8, y9, y10] g ∧ Sz (Lc ^ (t + 1)) (Wt t (c + ws'.length)) (ws'.foldl (wS (v[r]?.getD 0)) s)
  | [], s, c, _, hs, _, x8, x9, x10 => ⟨x8, x9, x10, rfl, hs⟩
  | w :: ws', s, c, hw, hs, hc, x8, x9, x10 => by
    have h1 := hw w List.mem_cons_self
    rw [List.length_cons] at hc
    have hs2 := ws_sz hx h1 hs
    obtain ⟨y8, y9, y10, e, hs3⟩ := am_inner ht a0 a1 a2 a3 a4 v r hr hx g ws' (wS (v[r]?.getD 0) s w) (c + 1) (fun z hz => hw z (List.mem_cons_of_mem _ hz)) hs2 (by omega) (.sh (.int (w.2.1 : Int))) (.sh (.int w.2.2.1)) (.sh (encQ w.2.2.2))
    refine ⟨y8, y9, y10, ?_, by rw [List.foldl_cons, List.length_cons, show c + (ws'.length + 1) = c + 1 + ws'.length by omega]; exact hs3⟩
    rw [List.map_cons, List.foldl_cons]
    have e1 : t8910 (encS3 w) [a0, a1, a2, a3, a4, .sh (encQ s), .sh (vD v), .sh (.int (r : Int)), x8, x9, x10] = some [a0, a1, a2, a3, a4, .sh (encQ s), .sh (vD v), .sh (.int (r : Int)), .sh (.int (w.2.1 : Int)), .sh (.int w.2.2.1), .sh (encQ w.2.2.2)] := rfl
    have e2 : amB [a0, a1, a2, a3, a4, .sh (encQ s), .sh (vD v), .sh (.int (r : Int)), .sh (.int (w.2.1 : Int)), .sh (.int w.2.2.1), .sh (encQ w.2.2.2)] g = .nx [a0, a1, a2, a3, a4, .sh (encQ (wS (v[r]?.getD 0) s w)), .sh (vD v), .sh (.int (r : Int)), .sh (.int (w.2.1 : Int)), .sh (.int w.2.2.1), .sh (encQ w.2.2.2)] g := by
      have b1 : ixD (vD v) (.int (r : Int)) = some (encQ (v[r]?.getD 0)) := atQ hr
      obtain ⟨bx, bq, bp⟩ := prod_bd ht hx h1
      have ba := amt_bd h1
      have baq : Bd ((w.2.2.1 : Rat) * w.2.2.2) := by
        have hz := (amt_sz h1).mul h1.q.sz
        rw [Nat.one_mul] at hz
        have b : 8 * Lc < 2 ^ 4000 := Nat.lt_of_lt_of_le (show 8 * Lc < 2 ^ 40 by decide) (Nat.pow_le_pow_right (by decide) (by decide))
        exact hz.bd (by decide) (by omega) b
      have bs := bdx hs (by omega) (Nat.le_trans (wt_le t c (by omega)) (p3000 (by omega)))
      obtain ⟨_, o1, _, _⟩ := ops_ok ba h1.q.bd g
      obtain ⟨_, o2, _, _⟩ := ops_ok bx baq g
      have er : v[r]?.getD 0 * ((w.2.2.1 : Rat) * w.2.2.2) = v[r]?.getD 0 * w.2.2.2 * (w.2.2.1 : Rat) := by rw [Rat.mul_assoc, Rat.mul_comm (w.2.2.1 : Rat)]
      rw [er] at o2
      obtain ⟨o3, _, _, _⟩ := ops_ok bs bp g
      rw [← amt_enc] at o1
      show _ = SR.nx [a0, a1, a2, a3, a4, .sh (encQ (s + v[r]?.getD 0 * w.2.2.2 * (w.2.2.1 : Rat))), .sh (vD v), .sh (.int (r : Int)), .sh (.int (w.2.1 : Int)), .sh (.int w.2.2.1), .sh (encQ w.2.2.2)] g
      generalize encQ (s + v[r]?.getD 0 * w.2.2.2 * (w.2.2.1 : Rat)) = z1 at o3 ⊢
      generalize encQ (v[r]?.getD 0 * w.2.2.2 * (w.2.2.1 : Rat)) = z2 at o2 o3
      generalize encQ ((w.2.2.1 : Rat) * w.2.2.2) = z3 at o1 o2
      generalize encQ (v[r]?.getD 0) = z4 at b1 o2
      generalize encQ w.2.2.2 = z5 at o1 ⊢
      generalize encQ s = z6 at o3 ⊢
      generalize vD v = VD at b1 ⊢
      simp [b1, o1, o2, o3]
    rw [forD, e1]
    generalize amB = B at e e2 ⊢
    simp only [e2]
    exact e
section
variable {os : List Int} {ws : List W4} {p : List (Option Nat)}
def wayL (ws : List W4) (p : List (Option Nat)) (r : Nat) : List W4 := (stepsP ws p r).map fun k => ws[k]?.getD w0
def rowsW (ws : List W4) (p : List (Option Nat)) (v : List Rat) (rs : List Nat) (s : Rat) : Rat := rs.foldl (fun s r => (wayL ws p r).foldl (wS (v[r]?.getD 0)) s) s
def wholeP (os : List Int) (ws : List W4) (p : List (Option Nat)) (room : Nat) : Nat → Rat
  | 0 => 0
  | t + 1 => rowsW ws p (spreadP os ws p room t) (List.range os.length) (wholeP os ws p room t)
theorem rowsW_sz (V : Vl os ws) (h : Plan os ws p) {t : Nat} {v : List Rat} (hv : Sp t os.length v) : ∀ (rs : List Nat) (s : Rat) (c : Nat), (∀ r ∈ rs, r < os.length) → Sz (Lc ^ (t + 1)) (Wt t c) s → Sz (Lc ^ (t + 1)) (Wt t (c + 24 * rs.length)) (rowsW ws p v rs s)
  | [], s, c, _, hs => hs
  | r :: rs, s, c, hr, hs => by
    have inner : ∀ (l : List W4) (s : Rat) (c : Nat), (∀ w ∈ l, Wok os.length w) → Sz (Lc ^ (t + 1)) (Wt t c) s → Sz (Lc ^ (t + 1)) (Wt t (c + l.length)) (l.foldl (wS (v[r]?.getD 0)) s) := fun l => by
      induction l with
      | nil => exact fun s c _ hs => hs
      | cons w l ih =>
        intro s c hw hs
        rw [List.foldl_cons, List.length_cons, show c + (l.length + 1) = c + 1 + l.length by omega]
        exact ih _ _ (fun z hz => hw z (List.mem_cons_of_mem _ hz)) (ws_sz (hv.at r) (hw w List.mem_cons_self) hs)
    have h1 := inner (wayL ws p r) s c (row_w V h (hr r List.mem_cons_self)) hs
    have hl : (wayL ws p r).length ≤ 24 := rowlen V r
    have h2 : Sz (Lc ^ (t + 1)) (Wt t (c + 24)) ((wayL ws p r).foldl (wS (v[r]?.getD 0)) s) := h1.mono (wt_mono (Nat.add_le_add_left hl c))
    have := rowsW_sz V h hv rs _ (c + 24) (fun z hz => hr z (List.mem_cons_of_mem _ hz)) h2
    rw [List.length_cons, show c + 24 * (rs.length + 1) = c + 24 + 24 * rs.length by omega]
    exact this
theorem whole_lift {t : Nat} {s : Rat} (hs : Sz (Lc ^ t) (2 ^ (40 * t + 4)) s) : Sz (Lc ^ (t + 1)) (Wt t 0) s := by
  have h1 := hs.lift Lc (by decide)
  have e : Wt t 0 = 2 ^ (40 * t + 4) * Lc := by unfold Wt; rw [Nat.zero_mul, Nat.add_zero]
  have e2 : Lc ^ (t + 1) = Lc ^ t * Lc := Nat.pow_succ Lc t
  rw [e, e2]
  exact h1
theorem whole_sz (V : Vl os ws) (h : Plan os ws p) (room : Nat) : ∀ t, t ≤ 46 → Sz (Lc ^ t) (2 ^ (40 * t + 4)) (wholeP os ws p room t)
  | 0, _ => Sz.zero _ _
  | t + 1, ht => by
    have n2 := V.n2
    have h1 := rowsW_sz V h (spread_sp V h room t (by omega)) (List.range os.length) _ 0 (fun r hr => List.mem_range.mp hr) (whole_lift (whole_sz V h room t (by omega)))
    rw [List.length_range, Nat.zero_add] at h1
    exact h1.mono (wt_le t _ (by omega))
end
end K

set_option Elab.async false
set_option linter.all false
set_option maxRecDepth 100000
set_option maxHeartbeats 400000
namespace K
open PySem DL PyProof.Rows
section
variable {os : List Int} {ws : List W4} {p : List (Option Nat)}
/-- the rooms of one spread -/
theorem am_rooms (V : Vl os ws) (h : Plan os ws p) {t : Nat} (ht : t ≤ 45) {v : List Rat} (hv : Sp t os.length v) (a0 a1 a2 a3 : Sl) (s : Rat) (hs : Sz (Lc ^ (t + 1)) (Wt t 0) s) (x7 x8 x9 x10 : Sl) (g : DL.G) :
    ∃ y7 y8 y9 y10, forS (rangeD (unD lenD (varD 6))) (nameT 7) (forS (itemsD (opD ixD (varD 4) (varD 7))) t8910 amB) [a0, a1, a2, a3, .sh (stepsD os ws p), .sh (encQ s), .sh (vD v), x7, x8, x9, x10] g = .nx [a0, a1, a2, a3, .sh (stepsD os ws p), .sh (encQ (rowsW ws p v (List.range os.length) s)), .sh (vD v), y7, y8, y9, y10] g := by
  have n2 := V.n2
  have hb : ((os.length : Nat) : Int) ≤ 1000000 ∧ -1000000 ≤ ((os.length : Nat) : Int) := by omega
  obtain ⟨ρ', g', h1, hg', x7', x8', x9', x10', rfl⟩ := forD_all (t := nameT 7) (body := forS (itemsD (opD ixD (varD 4) (varD 7))) t8910 amB) (fun k : Nat => PyData.int (0 + (k : Int)))
    (fun pre ρ g' => g' = g ∧ ∃ x7 x8 x9 x10, ρ = [a0, a1, a2, a3, .sh (stepsD os ws p), .sh (encQ (rowsW ws p v pre s)), .sh (vD v), x7, x8, x9, x10]) (List.range os.length) (by
      rintro pre r post e ρ g' ⟨e', x7, x8, x9, x10, rfl⟩
      obtain ⟨hpl, hr, hpre⟩ := range_pre e
      have hl : (wayL ws p r).length ≤ 24 := rowlen V r
      have hs2 := rowsW_sz V h hv pre s 0 (fun z hz => by rw [hpre] at hz; have := List.mem_range.mp hz; omega) hs
      obtain ⟨y8, y9, y10, hin, _⟩ := am_inner ht a0 a1 a2 a3 (.sh (stepsD os ws p)) v r (by rw [hv.l]; exact hr) (hv.at r) g' (wayL ws p r) (rowsW ws p v pre s) (0 + 24 * pre.length) (row_w V h hr) hs2 (by omega) x8 x9 x10
      have er : (wayL ws p r).foldl (wS (v[r]?.getD 0)) (rowsW ws p v pre s) = rowsW ws p v (pre ++ [r]) s := by unfold rowsW; rw [List.foldl_append]; rfl
      rw [er] at hin
      refine ⟨[a0, a1, a2, a3, .sh (stepsD os ws p), .sh (encQ (rowsW ws p v pre s)), .sh (vD v), .sh (.int (r : Int)), x8, x9, x10], _, g', by simp, .inl (for_run (g1 := g') ?_ hin), e', _, _, _, _, rfl⟩
      have e1 : ixD (stepsD os ws p) (.int (r : Int)) = some (rowS3 ws (stepsP ws p r)) := ix_mapl (fun r => rowS3 ws (stepsP ws p r)) (List.range os.length) r r (List.getElem?_range hr)
      rw [row_enc] at e1
      replace e1 : ixD (stepsD os ws p) (.int (r : Int)) = some (.list ((wayL ws p r).map encS3)) := e1
      generalize stepsD os ws p = SD at e1 ⊢
      simp [e1]) (g := g) (ρ := [a0, a1, a2, a3, .sh (stepsD os ws p), .sh (encQ s), .sh (vD v), x7, x8, x9, x10]) ⟨rfl, _, _, _, _, rfl⟩
  rw [hg', ← upFrom_map] at h1
  refine ⟨x7', x8', x9', x10', for_run (g1 := g) ?_ h1⟩
  have hlen : ((v.map encQ).length : Int) = (os.length : Int) := by rw [List.length_map, hv.l]
  show rangeD (unD lenD (varD 6)) [a0, a1, a2, a3, .sh (stepsD os ws p), .sh (encQ s), .sh (.list (v.map encQ)), x7, x8, x9, x10] g = _
  generalize v.map encQ = VD at hlen ⊢
  simp [hlen, hb, big]
theorem amountAt_ok (V : Vl os ws) (h : Plan os ws p) {room : Nat} (hr : room < os.length) {k : Nat} (hk : k ≤ 40) (g : DL.G) : m_amount_at [encL os ws, plD p, .int (room : Int), .int (k : Int)] g = .ok (encQ (wholeP os ws p room k)) g := by
  have c1 := checkChoice_ok V h g
  have c2 := checkRoom_ok (ws := ws) hr g
  have c3 := checkSteps_ok hk g
  have hst := stepsFrom_ok V h g
  have hs := spreads_ok V h hr hk g
  let st : Sl → Sl → Sl → Sl → Sl → Sl → Nv := fun f x6 x7 x8 x9 x10 => [.sh (encL os ws), .sh (plD p), .sh (.int (room : Int)), .sh (.int (k : Int)), .sh (stepsD os ws p), f, x6, x7, x8, x9, x10]
  obtain ⟨ρ', g', h1, hg', x6, x7, x8, x9, x10, rfl⟩ := forD_all (t := nameT 6) (body := forS (rangeD (unD lenD (varD 6))) (nameT 7) (forS (itemsD (opD ixD (varD 4) (varD 7))) t8910 amB)) (fun t : Nat => vD (spreadP os ws p room t))
    (fun pre ρ g' => g' = g ∧ ∃ x6 x7 x8 x9 x10, ρ = st (.sh (encQ (wholeP os ws p room pre.length))) x6 x7 x8 x9 x10) (List.range k) (by
      rintro pre t post e ρ g' ⟨e', x6, x7, x8, x9, x10, rfl⟩
      obtain ⟨hpl, ht, _⟩ := range_pre e
      rw [hpl, show (pre ++ [t]).length = t + 1 by rw [List.length_append, hpl]; rfl]
      obtain ⟨y7, y8, y9, y10, hin⟩ := am_rooms V h (t := t) (by omega) (spread_sp V h room t (by omega)) (.sh (encL os ws)) (.sh (plD p)) (.sh (.int (room : Int))) (.sh (.int (k : Int))) (wholeP os ws p room t) (whole_lift (whole_sz V h room t (by omega))) x7 x8 x9 x10 g'
      exact ⟨_, _, g', rfl, .inl hin, e', _, _, _, _, _, rfl⟩) (g := g) (ρ := st (.sh (encQ 0)) .no .no .no .no .no) ⟨rfl, _, _, _, _, _, rfl⟩
  rw [hg', List.length_range] at h1
  unfold m_amount_at
  refine fn_rt ?_
  show b_amount_at [.sh (encL os ws), .sh (plD p), .sh (.int (room : Int)), .sh (.int (k : Int)), .no, .no, .no, .no, .no, .no, .no] g = _
  unfold b_amount_at
  have d : ∀ {e : Ex} {d : PyData} {ρ : Nv}, e ρ g = .ok d g → dropS e ρ g = .nx ρ g := fun h => by simp [h]
  refine (seq_eq (d (d := .none) (by
    generalize plD p = PD at c1 ⊢
    generalize encL os ws = A at c1 ⊢
    simp [c1]))).trans ?_
  refine (seq_eq (d (d := .none) (by
    generalize plD p = PD
    generalize encL os ws = A at c2 ⊢
    simp [c2]))).trans ?_
  refine (seq_eq (d (d := .none) (by simp [c3]))).trans ?_
  refine (seq_eq (ρ1 := [.sh (encL os ws), .sh (plD p), .sh (.int (room : Int)), .sh (.int (k : Int)), .sh (stepsD os ws p), .no, .no, .no, .no, .no, .no]) (g1 := g) ?_).trans ?_
  · refine (set_ok (d := stepsD os ws p) (g' := g) ?_).trans rfl
    generalize plD p = PD at hst ⊢
    generalize encL os ws = A at hst ⊢
    generalize stepsD os ws p = SD at hst ⊢
    simp [hst]
  refine (seq_eq (ρ1 := st (.sh (encQ 0)) .no .no .no .no .no) (g1 := g) rfl).trans ?_
  refine (seq_eq (for_run (g1 := g) ?_ h1)).trans ?_
  · have hcut := cut_lo ((List.range (k + 1)).map fun t => vD (spreadP os ws p room t)) k (by rw [List.length_map, List.length_range]; omega)
    have e : ((List.range (k + 1)).map fun t => vD (spreadP os ws p room t)).take k = (List.range k).map fun t => vD (spreadP os ws p room t) := by
      rw [← List.map_take, List.take_range]
      congr 2
      omega
    rw [e] at hcut
    generalize ((List.range (k + 1)).map fun t => vD (spreadP os ws p room t)) = L1 at hs hcut
    generalize ((List.range k).map fun t => vD (spreadP os ws p room t)) = L2 at hcut ⊢
    show itemsD _ [.sh (encL os ws), .sh (plD p), .sh (.int (room : Int)), .sh (.int (k : Int)), .sh (stepsD os ws p), .sh (encQ 0), .no, .no, .no, .no, .no] g = _
    generalize plD p = PD at hs ⊢
    generalize encL os ws = A at hs ⊢
    generalize stepsD os ws p = SD
    simp [hs, hcut]
  · rfl
/-! the law's spread: both at once -/
noncomputable abbrev lwB : Sm := seqS (setS 11 (callD 2 m_law_times (consD (opD ixD (varD 3) (varD 7)) (consD (varD 10) nilD))))
  (seqS (setIxS 6 (varD 8) (callD 2 m_law_plus (consD (ixO 6 (varD 8)) (consD (varD 11) nilD))))
  (setS 4 (callD 2 m_law_plus (consD (varD 4) (consD (callD 2 m_law_times (consD (varD 11) (consD (tupD (consD (varD 9) (consD (constD (.int 1)) nilD))) nilD))) nilD)))))
theorem lw_step {t n : Nat} (ht : t ≤ 45) (a0 a1 a2 a5 : Sl) (v : List Rat) (r : Nat) (hr : r < v.length) (hx : Sz (Lc ^ t) (2 ^ (36 * t)) (v[r]?.getD 0)) (g : DL.G) {w : W4} (h1 : Wok n w) {f : List Rat} {s : Rat} {c : Nat} (hf : Fs (Lc ^ (t + 1)) c (Kt t) n f) (hs : Sz (Lc ^ (t + 1)) (Wt t c) s) (hc : c ≤ 200) (x11 : Sl) :
    ∃ y11, lwB [a0, a1, a2, .sh (vD v), .sh (encQ s), a5, .ow (.lst (f.map encQ)), .sh (.int (r : Int)), .sh (.int (w.2.1 : Int)), .sh (.int w.2.2.1), .sh (encQ w.2.2.2), x11] g = .nx [a0, a1, a2, .sh (vD v), .sh (encQ (wS (v[r]?.getD 0) s w)), a5, .ow (.lst ((addS (v[r]?.getD 0) f w).map encQ)), .sh (.int (r : Int)), .sh (.int (w.2.1 : Int)), .sh (.int w.2.2.1), .sh (encQ w.2.2.2), y11] g := by
  have b1 : ixD (vD v) (.int (r : Int)) = some (encQ (v[r]?.getD 0)) := atQ hr
  have hfl : w.2.1 < f.length := by rw [hf.l]; exact h1.t
  have a2' := atQ hfl
  obtain ⟨bx, bq, bp⟩ := prod_bd ht hx h1
  have ba := amt_bd h1
  have bs := bdx hs (by omega) (Nat.le_trans (wt_le t c (by omega)) (p3000 (by omega)))
  have bf := bdx (hf.at w.2.1) (by omega) (Nat.le_trans (kt_le t c (by omega)) (p3000 (by omega)))
  obtain ⟨_, _, _, o1⟩ := ops_ok bx h1.q.bd g
  obtain ⟨_, _, o2, _⟩ := ops_ok bf bq g
  obtain ⟨_, _, _, o3⟩ := ops_ok bq ba g
  obtain ⟨_, _, o4, _⟩ := ops_ok bs bp g
  rw [← amt_enc] at o3
  have a3 : L2.ixN (f.map encQ).length (w.2.1 : Int) = some w.2.1 := by rw [List.length_map]; exact ixNn hfl
  have a4 : (addS (v[r]?.getD 0) f w).map encQ = (f.map encQ).set w.2.1 (encQ (f[w.2.1]?.getD 0 + v[r]?.getD 0 * w.2.2.2)) := by unfold addS; rw [List.map_set]
  refine ⟨.sh (encQ (v[r]?.getD 0 * w.2.2.2)), ?_⟩
  show _ = SR.nx [a0, a1, a2, .sh (vD v), .sh (encQ (s + v[r]?.getD 0 * w.2.2.2 * (w.2.2.1 : Rat))), a5, .ow (.lst ((addS (v[r]?.getD 0) f w).map encQ)), .sh (.int (r : Int)), .sh (.int (w.2.1 : Int)), .sh (.int w.2.2.1), .sh (encQ w.2.2.2), .sh (encQ (v[r]?.getD 0 * w.2.2.2))] g
  rw [a4]
  generalize encQ (s + v[r]?.getD 0 * w.2.2.2 * (w.2.2.1 : Rat)) = z1 at o4 ⊢
  generalize encQ (v[r]?.getD 0 * w.2.2.2 * (w.2.2.1 : Rat)) = z2 at o3 o4
  generalize encQ (f[w.2.1]?.getD 0 + v[r]?.getD 0 * w.2.2.2) = z3 at o2 ⊢
  generalize encQ (v[r]?.getD 0 * w.2.2.2) = z4 at o1 o2 o3 ⊢
  generalize encQ (f[w.2.1]?.getD 0) = z5 at a2' o2
  generalize encQ (v[r]?.getD 0) = z6 at b1 o1
  generalize encQ w.2.2.2 = z7 at o1 ⊢
  generalize encQ s = z8 at o4 ⊢
  generalize vD v = VD at b1 ⊢
  generalize f.map encQ = FD at a2' a3 ⊢
  generalize w.2.1 = tt at a2' a3 ⊢
  generalize w.2.2.1 = am at o3 ⊢
  refine (seq_eq (ρ1 := [a0, a1, a2, .sh VD, .sh z8, a5, .ow (.lst FD), .sh (.int (r : Int)), .sh (.int (tt : Int)), .sh (.int am), .sh z7, .sh z4]) (g1 := g) (by simp [b1, o1])).trans ?_
  refine (seq_eq (ρ1 := [a0, a1, a2, .sh VD, .sh z8, a5, .ow (.lst (FD.set tt z3)), .sh (.int (r : Int)), .sh (.int (tt : Int)), .sh (.int am), .sh z7, .sh z4]) (g1 := g) ?_).trans ?_
  · have a5' : ixO 6 (varD 8) [a0, a1, a2, .sh VD, .sh z8, a5, .ow (.lst FD), .sh (.int (r : Int)), .sh (.int (tt : Int)), .sh (.int am), .sh z7, .sh z4] g = .ok z5 g := by
      unfold ixO
      simp [a2']
    have a6 : callD 2 m_law_plus (consD (ixO 6 (varD 8)) (consD (varD 11) nilD)) [a0, a1, a2, .sh VD, .sh z8, a5, .ow (.lst FD), .sh (.int (r : Int)), .sh (.int (tt : Int)), .sh (.int am), .sh z7, .sh z4] g = .ok z3 g := by
      generalize ixO 6 (varD 8) = X at a5' ⊢
      simp [a5', o2]
    unfold setIxS stE
    rw [a6]
    simp [a3]
  · simp [o3, o4]
theorem lw_inner {t n : Nat} (ht : t ≤ 45) (a0 a1 a2 a5 : Sl) (v : List Rat) (r : Nat) (hr : r < v.length) (hx : Sz (Lc ^ t) (2 ^ (36 * t)) (v[r]?.getD 0)) (g : DL.G) : ∀ (ws' : List W4) (f : List Rat) (s : Rat) (c : Nat), (∀ w ∈ ws', Wok n w) → Fs (Lc ^ (t + 1)) c (Kt t) n f → Sz (Lc ^ (t + 1)) (Wt t c) s → c + ws'.length ≤ 200 → ∀ x8 x9 x10 x11,
    ∃ y8 y9 y10 y11, forD t8910 lwB (ws'.map encS3) [a0, a1, a2, .sh (vD v), .sh (encQ s), a5, .ow (.lst (f.map encQ)), .sh (.int (r : Int)), x8, x9, x10, x11] g = .nx [a0, a1, a2, .sh (vD v), .sh (encQ (ws'.foldl (wS (v[r]?.getD 0)) s)), a5, .ow (.lst ((ws'.foldl (addS (v[r]?.getD 0)) f).map encQ)), .sh (.int (r : Int)), y8, y9, y10, y11] g ∧ Fs (Lc ^ (t + 1)) (c + ws'.length) (Kt t) n (ws'.foldl (addS (v[r]?.getD 0)) f)
  | [], f, s, c, _, hf, _, _, x8, x9, x10, x11 => ⟨x8, x9, x10, x11, rfl, hf⟩
  | w :: ws', f, s, c, hw, hf, hs, hc, x8, x9, x10, x11 => by
    have h1 := hw w List.mem_cons_self
    rw [List.length_cons] at hc
    obtain ⟨z11, e2⟩ := lw_step ht a0 a1 a2 a5 v r hr hx g h1 hf hs (by omega) x11
    have hf2 := hf.add (Nat.pow_pos (by decide)) (prod_sz hx h1).1
    obtain ⟨y8, y9, y10, y11, e, hf3⟩ := lw_inner ht a0 a1 a2 a5 v r hr hx g ws' (addS (v[r]?.getD 0) f w) (wS (v[r]?.getD 0) s w) (c + 1) (fun z hz => hw z (List.mem_cons_of_mem _ hz)) hf2 (ws_sz hx h1 hs) (by omega) (.sh (.int (w.2.1 : Int))) (.sh (.int w.2.2.1)) (.sh (encQ w.2.2.2)) z11
    refine ⟨y8, y9, y10, y11, ?_, by rw [List.foldl_cons, List.length_cons, show c + (ws'.length + 1) = c + 1 + ws'.length by omega]; exact hf3⟩
    rw [List.map_cons, List.foldl_cons, List.foldl_cons]
    have e1 : t8910 (encS3 w) [a0, a1, a2, .sh (vD v), .sh (encQ s), a5, .ow (.lst (f.map encQ)), .sh (.int (r : Int)), x8, x9, x10, x11] = some [a0, a1, a2, .sh (vD v), .sh (encQ s), a5, .ow (.lst (f.map encQ)), .sh (.int (r : Int)), .sh (.int (w.2.1 : Int)), .sh (.int w.2.2.1), .sh (encQ w.2.2.2), x11] := rfl
    rw [forD, e1]
    generalize lwB = B at e e2 ⊢
    simp only [e2]
    exact e
end
end K

set_option Elab.async false
set_option linter.all false
set_option maxRecDepth 100000
set_option maxHeartbeats 400000
namespace K
open PySem DL PyProof.Rows
section
variable {os : List Int} {ws : List W4} {p : List (Option Nat)}
theorem set_one {n room : Nat} (hr : room < n) : (List.replicate n (0 : Rat)).set room 1 = (List.range n).map fun o => if o = room then (1 : Rat) else 0 := by
  apply List.ext_getElem?
  intro i
  rw [List.getElem?_map]
  by_cases hi : i < n
  · rw [List.getElem?_range hi]
    by_cases h : i = room
    · subst h
      rw [List.getElem?_set_self (by rw [List.length_replicate]; exact hi)]
      simp
    · rw [List.getElem?_set_ne (by omega), List.getElem?_replicate, if_pos hi]
      simp [h]
  · rw [List.getElem?_eq_none (by rw [List.length_set, List.length_replicate]; omega), List.getElem?_eq_none (by rw [List.length_range]; omega)]
    rfl
noncomputable abbrev turnB : Sm := seqS (setOS 6 (mulO (shareO (lstO (consD (tupD (consD (constD (.int 0)) (consD (constD (.int 1)) nilD))) nilD))) (unD lenD (varD 0))))
  (seqS (forS (rangeD (unD lenD (varD 0))) (nameT 7) (forS (itemsD (opD ixD (varD 0) (varD 7))) t8910 lwB))
  (shutS 6 (setS 3 (varD 6))))
theorem steps_lenD : lenD (stepsD os ws p) = some (.int (os.length : Int)) := by
  show some (PyData.int (((List.range os.length).map fun r => rowS3 ws (stepsP ws p r)).length : Int)) = _
  rw [List.length_map, List.length_range]
theorem turn_ok (V : Vl os ws) (h : Plan os ws p) {t : Nat} (ht : t ≤ 45) {v : List Rat} (hv : Sp t os.length v) (a1 a2 a5 : Sl) (s : Rat) (hs : Sz (Lc ^ (t + 1)) (Wt t 0) s) (x6 x7 x8 x9 x10 x11 : Sl) (g : DL.G) :
    ∃ y6 y7 y8 y9 y10 y11, turnB [.sh (stepsD os ws p), a1, a2, .sh (vD v), .sh (encQ s), a5, x6, x7, x8, x9, x10, x11] g = .nx [.sh (stepsD os ws p), a1, a2, .sh (vD (nextP os ws p v)), .sh (encQ (rowsW ws p v (List.range os.length) s)), a5, y6, y7, y8, y9, y10, y11] g := by
  have n2 := V.n2
  have hb : ((os.length : Nat) : Int) ≤ 1000000 ∧ -1000000 ≤ ((os.length : Nat) : Int) := by omega
  have hlenD := steps_lenD (os := os) (ws := ws) (p := p)
  obtain ⟨ρ', g', h1, hg', f, x7', x8', x9', x10', x11', rfl, hf, hfe⟩ := forD_all (t := nameT 7) (body := forS (itemsD (opD ixD (varD 0) (varD 7))) t8910 lwB) (fun k : Nat => PyData.int (0 + (k : Int)))
    (fun pre ρ g' => g' = g ∧ ∃ f x7 x8 x9 x10 x11, ρ = [.sh (stepsD os ws p), a1, a2, .sh (vD v), .sh (encQ (rowsW ws p v pre s)), a5, .ow (.lst (f.map encQ)), x7, x8, x9, x10, x11] ∧ Fs (Lc ^ (t + 1)) (24 * pre.length) (Kt t) os.length f ∧ f = pre.foldl (fun f r => (wayL ws p r).foldl (addS (v[r]?.getD 0)) f) (List.replicate os.length 0)) (List.range os.length) (by
      rintro pre r post e ρ g' ⟨e', f, x7, x8, x9, x10, x11, rfl, hf, hfe⟩
      obtain ⟨hpl, hr, hpre⟩ := range_pre e
      have hl : (wayL ws p r).length ≤ 24 := rowlen V r
      have hs2 := rowsW_sz V h hv pre s 0 (fun z hz => by rw [hpre] at hz; have := List.mem_range.mp hz; omega) hs
      rw [Nat.zero_add] at hs2
      obtain ⟨y8, y9, y10, y11, hin, hf2⟩ := lw_inner ht (.sh (stepsD os ws p)) a1 a2 a5 v r (by rw [hv.l]; exact hr) (hv.at r) g' (wayL ws p r) f (rowsW ws p v pre s) (24 * pre.length) (row_w V h hr) hf hs2 (by omega) x8 x9 x10 x11
      have er : (wayL ws p r).foldl (wS (v[r]?.getD 0)) (rowsW ws p v pre s) = rowsW ws p v (pre ++ [r]) s := by unfold rowsW; rw [List.foldl_append]; rfl
      rw [er] at hin
      refine ⟨[.sh (stepsD os ws p), a1, a2, .sh (vD v), .sh (encQ (rowsW ws p v pre s)), a5, .ow (.lst (f.map encQ)), .sh (.int (r : Int)), x8, x9, x10, x11], _, g', by simp, .inl (for_run (g1 := g') ?_ hin), e', _, _, _, _, _, _, rfl, hf2.up (by rw [List.length_append]; show _ ≤ 24 * (pre.length + 1); omega), by rw [List.foldl_append, ← hfe]; rfl⟩
      have e1 : ixD (stepsD os ws p) (.int (r : Int)) = some (rowS3 ws (stepsP ws p r)) := ix_mapl (fun r => rowS3 ws (stepsP ws p r)) (List.range os.length) r r (List.getElem?_range hr)
      rw [row_enc] at e1
      replace e1 : ixD (stepsD os ws p) (.int (r : Int)) = some (.list ((wayL ws p r).map encS3)) := e1
      generalize stepsD os ws p = SD at e1 ⊢
      simp [e1]) (g := g) (ρ := [.sh (stepsD os ws p), a1, a2, .sh (vD v), .sh (encQ s), a5, .ow (.lst ((List.replicate os.length (0 : Rat)).map encQ)), x7, x8, x9, x10, x11]) ⟨rfl, _, _, _, _, _, _, rfl, zero_fs _ _ _, rfl⟩
  rw [hg', ← upFrom_map] at h1
  have hfn : f = nextP os ws p v := hfe
  refine ⟨.sh (vD f), x7', x8', x9', x10', x11', ?_⟩
  unfold turnB
  refine (seq_eq (ρ1 := [.sh (stepsD os ws p), a1, a2, .sh (vD v), .sh (encQ s), a5, .ow (.lst ((List.replicate os.length (0 : Rat)).map encQ)), x7, x8, x9, x10, x11]) (g1 := g) ?_).trans ?_
  · have m := mulO_ok (a := shareO (lstO (consD (tupD (consD (constD (.int 0)) (consD (constD (.int 1)) nilD))) nilD))) (e := unD lenD (varD 0)) (d := encQ 0) (n := os.length) (ρ := [.sh (stepsD os ws p), a1, a2, .sh (vD v), .sh (encQ s), a5, x6, x7, x8, x9, x10, x11]) (g := g) rfl (un_ok (a := stepsD os ws p) rfl hlenD) (by omega)
    rw [rep_enc]
    unfold setOS
    rw [m]
    rfl
  refine (seq_eq (for_run (g1 := g) ?_ h1)).trans ?_
  · have := un_ok (o := lenD) (e := varD 0) (a := stepsD os ws p) (ρ := [.sh (stepsD os ws p), a1, a2, .sh (vD v), .sh (encQ s), a5, .ow (.lst ((List.replicate os.length (0 : Rat)).map encQ)), x7, x8, x9, x10, x11]) (g := g) rfl hlenD
    generalize unD lenD (varD 0) = X at this ⊢
    unfold rangeD
    rw [this]
    simp [hb, big]
  · refine (shut_eq (i := 6) (ds := f.map encQ) rfl).trans ?_
    rw [← hfn]
    rfl
theorem lawSpread_ok (V : Vl os ws) (h : Plan os ws p) {room : Nat} (hr : room < os.length) {k : Nat} (hk : k ≤ 40) (g : DL.G) : m_law_spread [stepsD os ws p, .int (room : Int), .int (k : Int)] g = .ok (.tuple [vD (spreadP os ws p room k), encQ (wholeP os ws p room k)]) g := by
  have n2 := V.n2
  have hbk : ((k : Nat) : Int) ≤ 1000000 ∧ -1000000 ≤ ((k : Nat) : Int) := by omega
  have hlenD := steps_lenD (os := os) (ws := ws) (p := p)
  let st : List Rat → Rat → Sl → Sl → Sl → Sl → Sl → Sl → Sl → Nv := fun v s x5 x6 x7 x8 x9 x10 x11 => [.sh (stepsD os ws p), .sh (.int (room : Int)), .sh (.int (k : Int)), .sh (vD v), .sh (encQ s), x5, x6, x7, x8, x9, x10, x11]
  obtain ⟨ρ', g', h1, hg', x5, x6, x7, x8, x9, x10, x11, rfl⟩ := forD_all (t := nameT 5) (body := turnB) (fun k : Nat => PyData.int (0 + (k : Int)))
    (fun pre ρ g' => g' = g ∧ ∃ x5 x6 x7 x8 x9 x10 x11, ρ = st (spreadP os ws p room pre.length) (wholeP os ws p room pre.length) x5 x6 x7 x8 x9 x10 x11) (List.range k) (by
      rintro pre t post e ρ g' ⟨e', x5, x6, x7, x8, x9, x10, x11, rfl⟩
      obtain ⟨hpl, ht, _⟩ := range_pre e
      rw [hpl, show (pre ++ [t]).length = t + 1 by rw [List.length_append, hpl]; rfl]
      obtain ⟨y6, y7, y8, y9, y10, y11, hin⟩ := turn_ok V h (t := t) (by omega) (spread_sp V h room t (by omega)) (.sh (.int (room : Int))) (.sh (.int (k : Int))) (.sh (.int (0 + (t : Int)))) (wholeP os ws p room t) (whole_lift (whole_sz V h room t (by omega))) x6 x7 x8 x9 x10 x11 g'
      exact ⟨_, _, g', rfl, .inl hin, e', _, _, _, _, _, _, _, rfl⟩) (g := g) (ρ := st (spreadP os ws p room 0) 0 .no .no .no .no .no .no .no) ⟨rfl, _, _, _, _, _, _, _, rfl⟩
  rw [hg', List.length_range, ← upFrom_map] at h1
  unfold m_law_spread
  refine fn_rt ?_
  show b_law_spread [.sh (stepsD os ws p), .sh (.int (room : Int)), .sh (.int (k : Int)), .no, .no, .no, .no, .no, .no, .no, .no, .no] g = _
  unfold b_law_spread
  have e0 : vD (spreadP os ws p room 0) = .list ((List.replicate os.length (encQ 0)).set room (encQ 1)) := by
    show PyData.list (((List.range os.length).map fun o => if o = room then (1 : Rat) else 0).map encQ) = _
    rw [← set_one hr, List.map_set, rep_enc]
  refine (seq_eq (ρ1 := [.sh (stepsD os ws p), .sh (.int (room : Int)), .sh (.int (k : Int)), .ow (.lst (List.replicate os.length (encQ 0))), .no, .no, .no, .no, .no, .no, .no, .no]) (g1 := g) ?_).trans ?_
  · have m := mulO_ok (a := shareO (lstO (consD (tupD (consD (constD (.int 0)) (consD (constD (.int 1)) nilD))) nilD))) (e := unD lenD (varD 0)) (d := encQ 0) (n := os.length) (ρ := [.sh (stepsD os ws p), .sh (.int (room : Int)), .sh (.int (k : Int)), .no, .no, .no, .no, .no, .no, .no, .no, .no]) (g := g) rfl (un_ok (a := stepsD os ws p) rfl hlenD) (by omega)
    unfold setOS
    rw [m]
    rfl
  refine (seq_eq (ρ1 := [.sh (stepsD os ws p), .sh (.int (room : Int)), .sh (.int (k : Int)), .ow (.lst ((List.replicate os.length (encQ 0)).set room (encQ 1))), .no, .no, .no, .no, .no, .no, .no, .no]) (g1 := g) ?_).trans ?_
  · have ix : L2.ixN (List.replicate os.length (encQ 0)).length (room : Int) = some room := by rw [List.length_replicate]; exact ixNn hr
    have o1 : PyData.tuple [.int 1, .int 1] = encQ 1 := rfl
    generalize stepsD os ws p = SD
    unfold setIxS stE
    generalize List.replicate os.length (encQ 0) = L at ix ⊢
    rw [← o1]
    simp [ix]
  refine (seq_eq (ρ1 := [.sh (stepsD os ws p), .sh (.int (room : Int)), .sh (.int (k : Int)), .ow (.lst ((List.replicate os.length (encQ 0)).set room (encQ 1))), .sh (encQ 0), .no, .no, .no, .no, .no, .no, .no]) (g1 := g) rfl).trans ?_
  refine (shut_eq (i := 3) (ds := (List.replicate os.length (encQ 0)).set room (encQ 1)) rfl).trans ?_
  show seqS (forS (rangeD (varD 2)) (nameT 5) turnB) (retS (tupD (consD (varD 3) (consD (varD 4) nilD)))) [.sh (stepsD os ws p), .sh (.int (room : Int)), .sh (.int (k : Int)), .sh (.list ((List.replicate os.length (encQ 0)).set room (encQ 1))), .sh (encQ 0), .no, .no, .no, .no, .no, .no, .no] g = _
  rw [← e0]
  refine (seq_eq (for_run (g1 := g) ?_ h1)).trans ?_
  · show rangeD (varD 2) [.sh (stepsD os ws p), .sh (.int (room : Int)), .sh (.int (k : Int)), .sh (vD (spreadP os ws p room 0)), .sh (encQ 0), .no, .no, .no, .no, .no, .no, .no] g = _
    generalize stepsD os ws p = SD
    simp [hbk, big]
  · rfl
end
end K

set_option Elab.async false
set_option linter.all false
set_option maxRecDepth 100000
set_option maxHeartbeats 400000
namespace K
open PySem DL PyProof.Rows
/-! ### the drawn lottery -/
theorem share_mk {v S : Nat} (h1 : 1 ≤ v) (h2 : v ≤ S) (h3 : S ≤ 20) : Share (mkRat (v : Int) S) := by
  have hS : S ≠ 0 := by omega
  have hg : 0 < Nat.gcd v S := Nat.gcd_pos_of_pos_left _ (by omega)
  have e1 : (mkRat (v : Int) S).num = ((v / Nat.gcd v S : Nat) : Int) := by rw [mk_num _ _ hS, Int.natAbs_natCast]; rfl
  have e2 : (mkRat (v : Int) S).den = S / Nat.gcd v S := by
    have := mk_den (v : Int) S hS
    rw [Int.natAbs_natCast] at this
    have e : (S : Int) / ((Nat.gcd v S : Nat) : Int) = ((S / Nat.gcd v S : Nat) : Int) := rfl
    rw [e] at this
    omega
  have a1 : 1 ≤ v / Nat.gcd v S := Nat.div_pos (Nat.le_of_dvd (by omega) (Nat.gcd_dvd_left _ _)) hg
  have a2 : v / Nat.gcd v S ≤ S / Nat.gcd v S := Nat.div_le_div_right h2
  have a3 : S / Nat.gcd v S ≤ S := Nat.div_le_self _ _
  exact ⟨by rw [e1]; omega, by rw [e1, e2]; omega, by rw [e2]; omega⟩
theorem sum_shares (S : Nat) (hS : 0 < S) : ∀ vs : List Nat, sumQ (vs.map fun (v : Nat) => mkRat (v : Int) S) = mkRat ((vs.sum : Nat) : Int) S
  | [] => (Rat.zero_mkRat S).symm
  | v :: vs => by
    rw [List.map_cons, List.sum_cons]
    show mkRat (v : Int) S + sumQ (vs.map fun (v : Nat) => mkRat (v : Int) S) = _
    rw [sum_shares S hS vs, Rat.mkRat_add_mkRat _ _ (by omega) (by omega), ← Int.add_mul, Rat.mkRat_mul_right (by omega)]
    rfl
theorem share_one : Share 1 := ⟨by decide, by decide, by decide⟩
theorem mk_same (S : Nat) (hS : 0 < S) : mkRat ((S : Nat) : Int) S = 1 := by
  have e : (1 : Rat) = mkRat 1 1 := (Rat.mkRat_one 1).symm
  rw [e, Rat.mkRat_eq_iff (by omega) (by decide)]
  omega
/-- as far as the rooms ahead of n0 go, of n rooms -/
structure Vp (os : List Int) (n0 : Nat) (ws : List W4) : Prop where
  l : ws.length ≤ 3 * n0
  w : ∀ w ∈ ws, w.1 < n0 ∧ w.2.1 < os.length ∧ -8 ≤ w.2.2.1 ∧ w.2.2.1 ≤ 8
  q : ∀ w ∈ ws, Share w.2.2.2
  z : ∀ w ∈ ws, os[w.1]?.getD 0 = 2 ∨ w.2.2.2 = 1
  r : ∀ r, r < n0 → ∃ w ∈ ws, w.1 = r
  s : ∀ r, r < n0 → os[r]?.getD 0 = 2 → sumR ws r = 1
theorem Vp.vl {os : List Int} {ws : List W4} (h : Vp os os.length ws) (n1 : 1 ≤ os.length) (n2 : os.length ≤ 8) (ho : ∀ x ∈ os, x = 0 ∨ x = 2) : Vl os ws := by
  have hl := h.l
  obtain ⟨w, hw, _⟩ := h.r 0 (by omega)
  exact ⟨n1, n2, ho, List.length_pos_of_mem hw, by omega, h.w, h.q, h.z, h.r, h.s⟩
theorem Vl.perm {os : List Int} {ws ws' : List W4} (V : Vl os ws) (p : ws.Perm ws') : Vl os ws' := by
  have m : ∀ w, w ∈ ws' → w ∈ ws := fun w h => p.mem_iff.mpr h
  refine ⟨V.n1, V.n2, V.o, by rw [← p.length_eq]; exact V.l1, by rw [← p.length_eq]; exact V.l2, fun w h => V.w w (m w h), fun w h => V.q w (m w h), fun w h => V.z w (m w h), fun r hr => ?_, fun r hr h2 => ?_⟩
  · obtain ⟨w, hw, e⟩ := V.r r hr
    exact ⟨w, p.mem_iff.mp hw, e⟩
  · rw [← V.s r hr h2]
    unfold sumR
    exact (sumQ_perm ((p.filter _).map _)).symm
/-- one room's ways -/
structure Rw (os : List Int) (r : Nat) (S : Nat) (vs : List Nat) (ws : List W4) : Prop where
  l : ws.length = vs.length
  w : ∀ w ∈ ws, w.1 = r ∧ w.2.1 < os.length ∧ -8 ≤ w.2.2.1 ∧ w.2.2.1 ≤ 8
  q : ws.map (fun w => w.2.2.2) = if os[r]?.getD 0 = 0 then vs.map (fun (_ : Nat) => (1 : Rat)) else vs.map fun (v : Nat) => mkRat (v : Int) S
theorem Rw.share {os : List Int} {r S : Nat} {vs : List Nat} {ws : List W4} (h : Rw os r S vs ws) (hv : ∀ v ∈ vs, 1 ≤ v ∧ v ≤ S) (hS : S ≤ 20) (ho : os[r]?.getD 0 = 0 ∨ os[r]?.getD 0 = 2) : ∀ w ∈ ws, Share w.2.2.2 ∧ (os[r]?.getD 0 = 2 ∨ w.2.2.2 = 1) := fun w hw => by
  have hm : w.2.2.2 ∈ ws.map (fun w => w.2.2.2) := List.mem_map_of_mem hw
  rw [h.q] at hm
  by_cases e : os[r]?.getD 0 = 0
  · rw [if_pos e] at hm
    obtain ⟨v, _, e2⟩ := List.mem_map.mp hm
    rw [← e2]
    exact ⟨share_one, .inr rfl⟩
  · rw [if_neg e] at hm
    obtain ⟨v, hv', e2⟩ := List.mem_map.mp hm
    rw [← e2]
    exact ⟨share_mk (hv v hv').1 (hv v hv').2 hS, .inl (ho.resolve_left e)⟩
theorem mem_le_sum : ∀ {vs : List Nat} {v : Nat}, v ∈ vs → v ≤ vs.sum
  | a :: vs, v, h => by
    rw [List.sum_cons]
    rcases List.mem_cons.mp h with rfl | h
    · omega
    · have := mem_le_sum h
      omega
theorem sumR_app (a b : List W4) (r : Nat) : sumR (a ++ b) r = sumR a r + sumR b r := by
  unfold sumR
  rw [List.filter_append, List.map_append, sumQ_app]
theorem sumR_no {a : List W4} {r : Nat} (h : ∀ w ∈ a, w.1 ≠ r) : sumR a r = 0 := by
  unfold sumR
  rw [List.filter_eq_nil_iff.mpr fun w hw => by have := h w hw; simp; omega]
  rfl
theorem sumR_all {a : List W4} {r : Nat} (h : ∀ w ∈ a, w.1 = r) : sumR a r = sumQ (a.map fun w => w.2.2.2) := by
  unfold sumR
  rw [List.filter_eq_self.mpr fun w hw => by have := h w hw; simp; omega]
theorem Vp.next {os : List Int} {r : Nat} {ws wr : List W4} {vs : List Nat} (h : Vp os r ws) (hr : Rw os r vs.sum vs wr) (h1 : 1 ≤ vs.length) (h3 : vs.length ≤ 3) (hv : ∀ v ∈ vs, 1 ≤ v) (hS : vs.sum ≤ 20) (ho : os[r]?.getD 0 = 0 ∨ os[r]?.getD 0 = 2) : Vp os (r + 1) (ws ++ wr) := by
  have sh := hr.share (fun v hv' => ⟨hv v hv', mem_le_sum hv'⟩) hS ho
  have hl := h.l
  have hl2 := hr.l
  refine ⟨by rw [List.length_append]; omega, fun w hw => ?_, fun w hw => ?_, fun w hw => ?_, fun k hk => ?_, fun k hk hz => ?_⟩
  · rcases List.mem_append.mp hw with z | z
    · have := h.w w z; exact ⟨by omega, this.2⟩
    · have := hr.w w z; exact ⟨by omega, this.2⟩
  · rcases List.mem_append.mp hw with z | z
    · exact h.q w z
    · exact (sh w z).1
  · rcases List.mem_append.mp hw with z | z
    · exact h.z w z
    · rw [(hr.w w z).1]; exact (sh w z).2
  · by_cases e : k < r
    · obtain ⟨w, hw, e2⟩ := h.r k e
      exact ⟨w, List.mem_append_left _ hw, e2⟩
    · obtain rfl : k = r := by omega
      obtain ⟨w, hw⟩ := List.exists_mem_of_length_pos (l := wr) (by omega)
      exact ⟨w, List.mem_append_right _ hw, (hr.w w hw).1⟩
  · rw [sumR_app]
    by_cases e : k < r
    · rw [h.s k e hz, sumR_no (a := wr) fun w hw => by rw [(hr.w w hw).1]; omega, Rat.add_zero]
    · obtain rfl : k = r := by omega
      have pos : 0 < vs.sum := by
        obtain ⟨v, hv'⟩ := List.exists_mem_of_length_pos (l := vs) (by omega)
        have := hv v hv'
        have := mem_le_sum hv'
        omega
      rw [sumR_no (a := ws) fun w hw => by have := (h.w w hw).1; omega, Rat.zero_add, sumR_all fun w hw => (hr.w w hw).1, hr.q, if_neg (by rw [hz]; decide), sum_shares _ pos, mk_same _ pos]
end K

set_option Elab.async false
set_option linter.all false
set_option maxRecDepth 100000
set_option maxHeartbeats 400000
namespace K
open PySem DL PyProof.Rows
section
variable {os : List Int} {ws : List W4}
theorem drawE {ms : List Int} {g : DL.G} (hg : Dr ms g) {ρ : Nv} {i : Nat} (hi : ρ[i]? = some .dr) {e : Ex} {m : Nat} (hm : 0 < m) (he : ∀ g', e ρ g' = .ok (.int (m : Int)) g') : ∃ (r : Nat) (g' : DL.G), r < m ∧ Dr ms g' ∧ opD modD (callG 1 i m_law_draw nilD) e ρ g = .ok (.int (r : Int)) g' := by
  obtain ⟨d, g1, d0, d1, hd, hg1⟩ := drawM hg (n := (m : Int)) (by omega)
  refine ⟨(d % (m : Int)).toNat, g1, by omega, hg1, ?_⟩
  have e1 := he g1
  have m1 := md (r := d) (n := (m : Int)) (by omega)
  rw [show (((d % (m : Int)).toNat : Nat) : Int) = d % (m : Int) by omega]
  generalize d % (m : Int) = z at m1 ⊢
  generalize modD = M at m1 ⊢
  simp [hi, hd, e1, m1]
theorem eqI (a b : Int) : eqD (.int a) (.int b) = some (.bool (decide (a = b))) := by
  simp [eqD]
theorem if_seq {c : Te} {s t : Sm} {ρ : Nv} {g g1 : DL.G} {b : Bool} (h : c ρ g = .ok b g1) : ifS c s t ρ g = if b = true then s ρ g1 else t ρ g1 := by
  cases b with
  | true => exact if_yes h
  | false => exact if_no h
theorem and_ok {a b : Te} {ρ : Nv} {g g1 : DL.G} (h : a ρ g = .ok true g1) : andT a b ρ g = b ρ g1 := by
  unfold andT; rw [h]; rfl
theorem and_no {a b : Te} {ρ : Nv} {g g1 : DL.G} (h : a ρ g = .ok false g1) : andT a b ρ g = .ok false g1 := by
  unfold andT; rw [h]; rfl
theorem vv {i : Nat} {ρ : Nv} {d : PyData} {g : DL.G} (h : ρ[i]? = some (.sh d)) : varD i ρ g = .ok d g := by simp [h]
theorem bad_eq {a b : Ex} {x y : Int} {ρ : Nv} {g g1 g2 : DL.G} (h1 : a ρ g = .ok (.int x) g1) (h2 : b ρ g1 = .ok (.int y) g2) : boolD (opD eqD a b) ρ g = .ok (decide (x = y)) g2 := by
  have := eqI x y
  generalize eqD = M at this ⊢
  simp [h1, h2, this]
theorem gt_ok {a b : Ex} {x y : Int} {ρ : Nv} {g g1 g2 : DL.G} (h1 : a ρ g = .ok (.int x) g1) (h2 : b ρ g1 = .ok (.int y) g2) : boolD (opD (cmpD fun i j => decide (j < i)) a b) ρ g = .ok (decide (y < x)) g2 := by
  simp [h1, h2]
theorem op2 {o : PyData → PyData → Option PyData} {e1 e2 : Ex} {a b d : PyData} {ρ : Nv} {g g1 g2 : DL.G} (h1 : e1 ρ g = .ok a g1) (h2 : e2 ρ g1 = .ok b g2) (h3 : o a b = some d) : opD o e1 e2 ρ g = .ok d g2 := by
  simp [h1, h2, h3]
theorem cons2 {e : Ex} {es : Ar} {d : PyData} {ds : List PyData} {ρ : Nv} {g g1 g2 : DL.G} (h1 : e ρ g = .ok d g1) (h2 : es ρ g1 = .ok ds g2) : consD e es ρ g = .ok (d :: ds) g2 := by
  simp [h1, h2]
theorem tup2 {es : Ar} {ds : List PyData} {ρ : Nv} {g g1 : DL.G} (h : es ρ g = .ok ds g1) (hl : ds.length ≤ 1000) : tupD es ρ g = .ok (.tuple ds) g1 := by
  simp [h, hl]
theorem addI (a b : Int) : addD (.int a) (.int b) = some (.int (a + b)) := rfl
theorem subI (a b : Int) : subD (.int a) (.int b) = some (.int (a - b)) := rfl
abbrev stL (os : List Int) (wide near : Int) (ws : List W4) (x7 x8 x9 x10 x11 x12 x13 : Sl) : Nv := [.dr, .sh (.int 8), .sh (.int (os.length : Int)), .sh (owD os), .sh (.int wide), .sh (.int near), .ow (.lst (ws.map encW4)), x7, x8, x9, x10, x11, x12, x13]
theorem tgt_near {ms : List Int} {g : DL.G} (hg : Dr ms g) {wide near : Int} {r t : Nat} (hr : r < os.length) (ht : t < os.length) (x8 x9 x10 x11 x13 : Sl) : ∃ (t' : Nat) (g' : DL.G), t' < os.length ∧ Dr ms g' ∧
    ifS (boolD (opD eqD (varD 5) (constD (.int 0)))) (setS 12 (opD modD (opD addD (varD 7) (opD modD (callG 1 0 m_law_draw nilD) (constD (.int 3)))) (varD 2))) nextS (stL os wide near ws (.sh (.int (r : Int))) x8 x9 x10 x11 (.sh (.int (t : Int))) x13) g = .nx (stL os wide near ws (.sh (.int (r : Int))) x8 x9 x10 x11 (.sh (.int (t' : Int))) x13) g' := by
  have hb := bad_eq (a := varD 5) (b := constD (.int 0)) (x := near) (y := 0) (ρ := stL os wide near ws (.sh (.int (r : Int))) x8 x9 x10 x11 (.sh (.int (t : Int))) x13) (g := g) rfl rfl
  by_cases hn : near = 0
  · obtain ⟨d, g1, hd, hg1, h⟩ := drawE hg (ρ := stL os wide near ws (.sh (.int (r : Int))) x8 x9 x10 x11 (.sh (.int (t : Int))) x13) (i := 0) rfl (e := constD (.int 3)) (m := 3) (by decide) (fun _ => rfl)
    refine ⟨(r + d) % os.length, g1, Nat.mod_lt _ (by omega), hg1, ?_⟩
    rw [decide_eq_true hn] at hb
    refine (if_yes hb).trans ?_
    have h2 := op2 (o := addD) (e1 := varD 7) (a := .int (r : Int)) (ρ := stL os wide near ws (.sh (.int (r : Int))) x8 x9 x10 x11 (.sh (.int (t : Int))) x13) (g := g) rfl h (addI _ _)
    have h3 := op2 (o := modD) (e2 := varD 2) (b := .int (os.length : Int)) h2 rfl (md (by omega))
    rw [set_ok h3]
    rw [show (((r + d) % os.length : Nat) : Int) = ((r : Int) + (d : Int)) % (os.length : Int) by push_cast; rfl]
    rfl
  · rw [decide_eq_false hn] at hb
    exact ⟨t, g, ht, hg, (if_no hb).trans rfl⟩
theorem tgt_back {ms : List Int} {g : DL.G} (hg : Dr ms g) {wide near : Int} {r t : Nat} (hr : r < os.length) (ht : t < os.length) (x8 x9 x10 x11 x13 : Sl) : ∃ (t' : Nat) (g' : DL.G), t' < os.length ∧ Dr ms g' ∧
    ifS (andT (boolD (opD eqD (varD 5) (constD (.int 1)))) (andT (boolD (opD (cmpD fun i j => decide (j < i)) (varD 7) (constD (.int 0)))) (boolD (opD (cmpD fun i j => decide (j < i)) (opD modD (callG 1 0 m_law_draw nilD) (constD (.int 3))) (constD (.int 0)))))) (setS 12 (opD subD (varD 7) (constD (.int 1)))) nextS (stL os wide near ws (.sh (.int (r : Int))) x8 x9 x10 x11 (.sh (.int (t : Int))) x13) g = .nx (stL os wide near ws (.sh (.int (r : Int))) x8 x9 x10 x11 (.sh (.int (t' : Int))) x13) g' := by
  generalize hρ : stL os wide near ws (.sh (.int (r : Int))) x8 x9 x10 x11 (.sh (.int (t : Int))) x13 = ρ
  have hb := bad_eq (a := varD 5) (b := constD (.int 1)) (x := near) (y := 1) (ρ := ρ) (g := g) (by rw [← hρ]; rfl) rfl
  have hc := gt_ok (a := varD 7) (b := constD (.int 0)) (x := (r : Int)) (y := 0) (ρ := ρ) (g := g) (by rw [← hρ]; rfl) rfl
  by_cases hn : near = 1
  · rw [decide_eq_true hn] at hb
    by_cases h0 : (0 : Int) < (r : Int)
    · rw [decide_eq_true h0] at hc
      obtain ⟨d, g1, hd, hg1, h⟩ := drawE hg (ρ := ρ) (i := 0) (by rw [← hρ]; rfl) (e := constD (.int 3)) (m := 3) (by decide) (fun _ => rfl)
      have hd := gt_ok (b := constD (.int 0)) (y := 0) h rfl
      by_cases h1 : (0 : Int) < (d : Int)
      · rw [decide_eq_true h1] at hd
        refine ⟨r - 1, g1, by omega, hg1, (if_yes ((and_ok hb).trans ((and_ok hc).trans hd))).trans ?_⟩
        have := op2 (o := subD) (e1 := varD 7) (e2 := constD (.int 1)) (a := .int (r : Int)) (b := .int 1) (ρ := ρ) (g := g1) (by rw [← hρ]; rfl) rfl (subI _ _)
        rw [set_ok this, ← hρ, show ((r - 1 : Nat) : Int) = (r : Int) - 1 by omega]
        rfl
      · rw [decide_eq_false h1] at hd
        exact ⟨t, g1, ht, hg1, by rw [if_no ((and_ok hb).trans ((and_ok hc).trans hd)), hρ]; rfl⟩
    · rw [decide_eq_false h0] at hc
      exact ⟨t, g, ht, hg, by rw [if_no ((and_ok hb).trans (and_no hc)), hρ]; rfl⟩
  · rw [decide_eq_false hn] at hb
    exact ⟨t, g, ht, hg, by rw [if_no (and_no hb), hρ]; rfl⟩
end
end K

set_option Elab.async false
set_option linter.all false
set_option maxRecDepth 100000
set_option maxHeartbeats 400000
namespace K
open PySem DL PyProof.Rows
section
variable {os : List Int} {ws : List W4}
noncomputable abbrev wayS4 : Sm := (seqS (setS 12 (opD modD (callG 1 0 m_law_draw nilD) (varD 2)))
  (seqS (ifS (boolD (opD eqD (varD 5) (constD (.int 0))))
  (setS 12 (opD modD (opD addD (varD 7) (opD modD (callG 1 0 m_law_draw nilD) (constD (.int 3)))) (varD 2)))
  nextS)
  (seqS (ifS (andT (boolD (opD eqD (varD 5) (constD (.int 1)))) (andT (boolD (opD (cmpD fun i j => decide (j < i)) (varD 7) (constD (.int 0)))) (boolD (opD (cmpD fun i j => decide (j < i)) (opD modD (callG 1 0 m_law_draw nilD) (constD (.int 3))) (constD (.int 0))))))
  (setS 12 (opD subD (varD 7) (constD (.int 1))))
  nextS)
  (seqS (setS 13 (ifD (boolD (opD eqD (opD ixD (varD 3) (varD 7)) (constD (.int 0)))) (tupD (consD (constD (.int 1)) (consD (constD (.int 1)) nilD))) (callD 2 m_law_part (consD (varD 10) (consD (unD sumD (varD 9)) nilD)))))
  (appS 6 (tupD (consD (varD 7) (consD (varD 12) (consD (opD subD (opD modD (callG 1 0 m_law_draw nilD) (opD addD (opD mulD (constD (.int 2)) (varD 4)) (constD (.int 1)))) (varD 4)) (consD (varD 13) nilD))))))))))
theorem if_d {c : Te} {a b : Ex} {ρ : Nv} {g g1 : DL.G} {k : Bool} (h : c ρ g = .ok k g1) : ifD c a b ρ g = if k = true then a ρ g1 else b ρ g1 := by
  unfold ifD; rw [h]; rfl
theorem call_ok {n : Nat} {m : Fn} {fa : Ar} {ds : List PyData} {d : PyData} {ρ : Nv} {g g1 g2 : DL.G} (h : fa ρ g = .ok ds g1) (hl : ds.length = n) (k : m ds g1 = .ok d g2) : callD n m fa ρ g = .ok d g2 := by
  simp [h, hl, k]
theorem app_ok {i : Nat} {e : Ex} {d : PyData} {ds : List PyData} {ρ : Nv} {g g1 : DL.G} (h : e ρ g = .ok d g1) (hi : ρ[i]? = some (.ow (.lst ds))) (hl : ds.length < 1000000) : appS i e ρ g = .nx (ρ.set i (.ow (.lst (ds ++ [d])))) g1 := by
  unfold appS
  rw [h]
  simp only [hi]
  rw [if_pos (show ds.length < big from hl)]
theorem sum_nat (vs : List Nat) : sumD (.list (vs.map natD)) = some (.int ((vs.sum : Nat) : Int)) := by
  have e : vs.map natD = (vs.map fun (v : Nat) => (v : Int)).map PyData.int := by rw [List.map_map]; rfl
  show (intsD (vs.map natD)).map _ = _
  rw [e, intsD_map]
  show some (PyData.int _) = _
  congr 2
  induction vs with
  | nil => rfl
  | cons v vs ih => rw [List.map_cons, List.sum_cons, List.sum_cons, ih (by rw [List.map_map]; rfl)]; push_cast; rfl
theorem way4 {ms : List Int} {g : DL.G} (hg : Dr ms g) {wide near : Int} (hw : wide = 1 ∨ wide = 8) (hlw : ws.length ≤ 100) {r : Nat} (hr : r < os.length) {vs : List Nat} {v : Nat} (hS : 0 < vs.sum) (hS2 : vs.sum ≤ 20) (x8 x11 x12 x13 : Sl) :
    ∃ (w : W4) (g' : DL.G) (y12 y13 : Sl), Dr ms g' ∧ (w.1 = r ∧ w.2.1 < os.length ∧ -8 ≤ w.2.2.1 ∧ w.2.2.1 ≤ 8) ∧ (w.2.2.2 = if os[r]?.getD 0 = 0 then 1 else mkRat (v : Int) vs.sum) ∧
    wayS4 (stL os wide near ws (.sh (.int (r : Int))) x8 (.sh (.list (vs.map natD))) (.sh (.int (v : Int))) x11 x12 x13) g = .nx (stL os wide near (ws ++ [w]) (.sh (.int (r : Int))) x8 (.sh (.list (vs.map natD))) (.sh (.int (v : Int))) x11 y12 y13) g' := by
  obtain ⟨t0, g1, h0, hg1, e1⟩ := drawE hg (ρ := stL os wide near ws (.sh (.int (r : Int))) x8 (.sh (.list (vs.map natD))) (.sh (.int (v : Int))) x11 x12 x13) (i := 0) rfl (e := varD 2) (m := os.length) (by omega) (fun _ => rfl)
  obtain ⟨t1, g2, h1, hg2, e2⟩ := tgt_near (ws := ws) hg1 (wide := wide) (near := near) hr h0 x8 (.sh (.list (vs.map natD))) (.sh (.int (v : Int))) x11 x13
  obtain ⟨t, g3, ht, hg3, e3⟩ := tgt_back (ws := ws) hg2 (wide := wide) (near := near) hr h1 x8 (.sh (.list (vs.map natD))) (.sh (.int (v : Int))) x11 x13
  have e4 : ∀ g, setS 13 (ifD (boolD (opD eqD (opD ixD (varD 3) (varD 7)) (constD (.int 0)))) (tupD (consD (constD (.int 1)) (consD (constD (.int 1)) nilD))) (callD 2 m_law_part (consD (varD 10) (consD (unD sumD (varD 9)) nilD)))) (stL os wide near ws (.sh (.int (r : Int))) x8 (.sh (.list (vs.map natD))) (.sh (.int (v : Int))) x11 (.sh (.int (t : Int))) x13) g =
      .nx (stL os wide near ws (.sh (.int (r : Int))) x8 (.sh (.list (vs.map natD))) (.sh (.int (v : Int))) x11 (.sh (.int (t : Int))) (.sh (encQ (if os[r]?.getD 0 = 0 then 1 else mkRat (v : Int) vs.sum)))) g := fun g => by
    generalize hρ : stL os wide near ws (.sh (.int (r : Int))) x8 (.sh (.list (vs.map natD))) (.sh (.int (v : Int))) x11 (.sh (.int (t : Int))) x13 = ρ
    have hi : opD ixD (varD 3) (varD 7) ρ g = .ok (.int (os[r]?.getD 0)) g := op2 (a := owD os) (b := .int (r : Int)) (by rw [← hρ]; rfl) (by rw [← hρ]; rfl) (by rw [List.getElem?_eq_getElem hr]; exact ix_map PyData.int os r os[r] (List.getElem?_eq_getElem hr))
    have hb := bad_eq (b := constD (.int 0)) (y := 0) hi rfl
    have hv : ifD (boolD (opD eqD (opD ixD (varD 3) (varD 7)) (constD (.int 0)))) (tupD (consD (constD (.int 1)) (consD (constD (.int 1)) nilD))) (callD 2 m_law_part (consD (varD 10) (consD (unD sumD (varD 9)) nilD))) ρ g = .ok (encQ (if os[r]?.getD 0 = 0 then 1 else mkRat (v : Int) vs.sum)) g := by
      rw [if_d hb]
      by_cases hz : os[r]?.getD 0 = 0
      · rw [if_pos (decide_eq_true hz), if_pos hz]; rfl
      · rw [if_neg (by rw [decide_eq_false hz]; decide), if_neg hz]
        exact call_ok (ds := [.int (v : Int), .int ((vs.sum : Nat) : Int)]) (cons2 (by rw [← hρ]; rfl) (cons2 (un_ok (a := .list (vs.map natD)) (by rw [← hρ]; rfl) (sum_nat vs)) rfl)) rfl (lawPart_ok (v : Int) vs.sum hS (Nat.lt_of_le_of_lt hS2 (Nat.lt_of_lt_of_le (show 20 < 2 ^ 5 by decide) (Nat.pow_le_pow_right (by decide) (by decide)))) g)
    rw [set_ok hv, ← hρ]
    rfl
  generalize hQ : (if os[r]?.getD 0 = 0 then (1 : Rat) else mkRat (v : Int) vs.sum) = Q at e4 ⊢
  generalize hρ : stL os wide near ws (.sh (.int (r : Int))) x8 (.sh (.list (vs.map natD))) (.sh (.int (v : Int))) x11 (.sh (.int (t : Int))) (.sh (encQ Q)) = ρ at e4
  have ha : ∃ (a : Int) (g4 : DL.G), -8 ≤ a ∧ a ≤ 8 ∧ Dr ms g4 ∧ opD subD (opD modD (callG 1 0 m_law_draw nilD) (opD addD (opD mulD (constD (.int 2)) (varD 4)) (constD (.int 1)))) (varD 4) ρ g3 = .ok (.int a) g4 := by
    rcases hw with rfl | rfl
    · obtain ⟨d, g4, hd, hg4, h⟩ := drawE hg3 (ρ := ρ) (i := 0) (by rw [← hρ]; rfl) (e := opD addD (opD mulD (constD (.int 2)) (varD 4)) (constD (.int 1))) (m := 3) (by decide) (fun g' => by rw [← hρ]; rfl)
      exact ⟨(d : Int) - 1, g4, by omega, by omega, hg4, op2 (b := .int 1) h (by rw [← hρ]; rfl) (subI _ _)⟩
    · obtain ⟨d, g4, hd, hg4, h⟩ := drawE hg3 (ρ := ρ) (i := 0) (by rw [← hρ]; rfl) (e := opD addD (opD mulD (constD (.int 2)) (varD 4)) (constD (.int 1))) (m := 17) (by decide) (fun g' => by rw [← hρ]; rfl)
      exact ⟨(d : Int) - 8, g4, by omega, by omega, hg4, op2 (b := .int 8) h (by rw [← hρ]; rfl) (subI _ _)⟩
  obtain ⟨a, g4, a0, a1, hg4, ea⟩ := ha
  refine ⟨(r, t, a, Q), g4, .sh (.int (t : Int)), .sh (encQ Q), hg4, ⟨rfl, ht, a0, a1⟩, rfl, ?_⟩
  unfold wayS4
  rw [seq_eq (set_ok e1)]
  refine (seq_eq e2).trans ((seq_eq e3).trans ((seq_eq (e4 g3)).trans ?_))
  have e5 := app_ok (i := 6) (ρ := ρ) (g := g3) (ds := ws.map encW4) (tup2 (cons2 (e := varD 7) (d := .int (r : Int)) (ρ := ρ) (g := g3) (by rw [← hρ]; rfl) (cons2 (e := varD 12) (d := .int (t : Int)) (by rw [← hρ]; rfl) (cons2 ea (cons2 (e := varD 13) (d := encQ Q) (by rw [← hρ]; rfl) (es := nilD) (ds := []) rfl)))) (by show 4 ≤ 1000; decide)) (by rw [← hρ]; rfl) (by rw [List.length_map]; omega)
  have em : ws.map encW4 ++ [PyData.tuple [.int (r : Int), .int (t : Int), .int a, encQ Q]] = (ws ++ [((r, t, a, Q) : W4)]).map encW4 := by rw [List.map_append]; rfl
  rw [e5, em, ← hρ]
  rfl
end
end K

set_option Elab.async false
set_option linter.all false
set_option maxRecDepth 100000
set_option maxHeartbeats 400000
namespace K
open PySem DL PyProof.Rows
section
variable {os : List Int} {ws : List W4}
theorem lc_ok {fi : Ar} {own : List Nat} {tg : Tg} {cond : Te} {elt : Ex} {ds xs : List PyData} {ρ : Nv} {g g1 g2 : DL.G} (h : fi ρ g = .ok ds g1) (hl : ds.length ≤ 1000000) (k : compD tg cond elt ds (wipeD ρ own) g1 = .ok xs g2) : lcO fi own tg cond elt ρ g = .ok (.lst xs) g2 := by
  unfold lcO
  rw [h]
  show (if ds.length ≤ big then _ else _) = _
  rw [if_pos (show ds.length ≤ big from hl), k]
  rfl
theorem range_ok {e : Ex} {n : Nat} {ρ : Nv} {g g1 : DL.G} (h : e ρ g = .ok (.int (n : Int)) g1) (hl : n ≤ 1000000) : rangeD e ρ g = .ok ((List.range n).map fun (k : Nat) => PyData.int (0 + (k : Int))) g1 := by
  rw [← upFrom_map]
  have hb : (n : Int) ≤ 1000000 ∧ -1000000 ≤ (n : Int) := by omega
  simp [h, big, hb]
theorem peek_ok {i : Nat} {e : Ex} {ds : List PyData} {z : Int} {ρ : Nv} {g g1 : DL.G} (hi : ρ[i]? = some (.ow (.lst ds))) (h : e (ρ.set i (.sh (.list ds))) g = .ok (.int z) g1) : peekD i e ρ g = .ok (.int z) g1 := by
  unfold peekD
  rw [hi]
  have : obD (.lst ds) = some (.list ds) := rfl
  simp only [this, h]
  rfl
theorem sum_le5 : ∀ {vs : List Nat}, (∀ v ∈ vs, 1 ≤ v ∧ v ≤ 5) → vs.sum ≤ 5 * vs.length
  | [], _ => by decide
  | v :: vs, h => by
    have := sum_le5 (vs := vs) fun x hx => h x (List.mem_cons_of_mem _ hx)
    have h1 := h v List.mem_cons_self
    rw [List.sum_cons, List.length_cons]
    omega
noncomputable abbrev roomS4 : Sm := (seqS (setOS 9 (lcO (rangeD (opD addD (constD (.int 1)) (opD modD (callG 1 0 m_law_draw nilD) (constD (.int 3))))) [8] (nameT 8) yesT (opD addD (constD (.int 1)) (opD modD (callG 1 0 m_law_draw nilD) (constD (.int 5)))))) (shutS 9 (forS (itemsD (varD 9)) (nameT 10) wayS4)))
theorem room4 {ms : List Int} {g : DL.G} (hg : Dr ms g) {wide near : Int} (hw : wide = 1 ∨ wide = 8) {r : Nat} (hr : r < os.length) (h8 : os.length ≤ 8) (ho : ∀ x ∈ os, x = 0 ∨ x = 2) (V : Vp os r ws) (x8 x9 x10 x11 x12 x13 : Sl) :
    ∃ (ws' : List W4) (g' : DL.G) (y8 y9 y10 y12 y13 : Sl), Vp os (r + 1) ws' ∧ Dr ms g' ∧
    roomS4 (stL os wide near ws (.sh (.int (r : Int))) x8 x9 x10 x11 x12 x13) g = .nx (stL os wide near ws' (.sh (.int (r : Int))) y8 y9 y10 x11 y12 y13) g' := by
  obtain ⟨d, g1, hd, hg1, e1⟩ := drawE hg (ρ := stL os wide near ws (.sh (.int (r : Int))) x8 x9 x10 x11 x12 x13) (i := 0) rfl (e := constD (.int 3)) (m := 3) (by decide) (fun _ => rfl)
  have e2 := range_ok (n := 1 + d) (op2 (o := addD) (e1 := constD (.int 1)) rfl e1 (by rw [addI]; push_cast; rfl)) (by omega)
  obtain ⟨_, g2, h3, hg2, vs, rfl, vl, vb⟩ := compD_all (t := nameT 8) (cond := yesT) (elt := opD addD (constD (.int 1)) (opD modD (callG 1 0 m_law_draw nilD) (constD (.int 5)))) (fun k : Nat => PyData.int (0 + (k : Int)))
    (fun pre ys g => Dr ms g ∧ ∃ vs : List Nat, ys = vs.map natD ∧ vs.length = pre.length ∧ ∀ v ∈ vs, 1 ≤ v ∧ v ≤ 5) (List.range (1 + d)) (wipeD (stL os wide near ws (.sh (.int (r : Int))) x8 x9 x10 x11 x12 x13) [8]) (by
      rintro pre k post e ys g ⟨hg, vs, rfl, l, v⟩
      obtain ⟨a, ga, ha, hga, ea⟩ := drawE hg (ρ := (wipeD (stL os wide near ws (.sh (.int (r : Int))) x8 x9 x10 x11 x12 x13) [8]).set 8 (.sh (.int (0 + (k : Int))))) (i := 0) rfl (e := constD (.int 5)) (m := 5) (by decide) (fun _ => rfl)
      refine ⟨_, g, rfl, .inr ⟨rfl, natD (1 + a), ga, op2 (o := addD) (e1 := constD (.int 1)) rfl ea (by rw [addI]; push_cast; rfl), hga, vs ++ [1 + a], by simp, by simp [l], fun x hx => ?_⟩⟩
      rcases List.mem_append.mp hx with z | z
      · exact v x z
      · rw [List.mem_singleton.mp z]; omega) (g := g1) ⟨hg1, [], rfl, rfl, fun _ h => nomatch h⟩
  rw [List.length_range] at vl
  have h4 := lc_ok (own := [8]) e2 (by rw [List.length_map, List.length_range]; omega) h3
  have pos : 0 < vs.sum := by
    obtain ⟨v, hv⟩ := List.exists_mem_of_length_pos (l := vs) (by omega)
    have := (vb v hv).1
    have := mem_le_sum hv
    omega
  have s5 := sum_le5 vb
  have hl := V.l
  obtain ⟨ρ', g', h5, hg', wr, y10, y12, y13, rfl, R⟩ := forD_all (t := nameT 10) (body := wayS4) natD
    (fun pre ρ g => Dr ms g ∧ ∃ wr y10 y12 y13, ρ = stL os wide near (ws ++ wr) (.sh (.int (r : Int))) x8 (.sh (.list (vs.map natD))) y10 x11 y12 y13 ∧ Rw os r vs.sum pre wr) vs (by
      rintro pre v post e ρ g ⟨hg, wr, y10, y12, y13, rfl, R⟩
      have hlr := R.l
      have hlp : pre.length < vs.length := by rw [e]; simp
      obtain ⟨w, g', z12, z13, hg', hw1, hw2, h⟩ := way4 (ws := ws ++ wr) (vs := vs) (v := v) hg (near := near) hw (by rw [List.length_append]; omega) hr pos (by omega) x8 x11 y12 y13
      refine ⟨_, _, g', rfl, .inl h, hg', wr ++ [w], _, _, _, by rw [List.append_assoc], ⟨by simp [hlr], fun x hx => ?_, ?_⟩⟩
      · rcases List.mem_append.mp hx with z | z
        · exact R.w x z
        · rw [List.mem_singleton.mp z]; exact hw1
      · rw [List.map_append, R.q]
        by_cases hz : os[r]?.getD 0 = 0
        · rw [if_pos hz, if_pos hz, List.map_append]
          rw [if_pos hz] at hw2
          rw [List.map_cons, hw2]; rfl
        · rw [if_neg hz, if_neg hz, List.map_append]
          rw [if_neg hz] at hw2
          rw [List.map_cons, hw2]; rfl) (g := g2) (ρ := stL os wide near (ws ++ []) (.sh (.int (r : Int))) x8 (.sh (.list (vs.map natD))) x10 x11 x12 x13) ⟨hg2, [], _, _, _, rfl, ⟨rfl, fun _ h => (nomatch h), by split <;> rfl⟩⟩
  refine ⟨ws ++ wr, g', x8, .sh (.list (vs.map natD)), y10, y12, y13, V.next R (by omega) (by omega) (fun v hv => (vb v hv).1) (by omega) ?_, hg', ?_⟩
  · rw [List.getElem?_eq_getElem hr]
    exact ho _ (List.getElem_mem hr)
  · unfold roomS4
    rw [seq_eq (ρ1 := stL os wide near ws (.sh (.int (r : Int))) x8 (.ow (.lst (vs.map natD))) x10 x11 x12 x13) (g1 := g2) (by unfold setOS; rw [h4]; rfl)]
    rw [shut_eq (ds := vs.map natD) rfl]
    rw [List.append_nil] at h5
    exact for_run (g1 := g2) rfl h5
theorem swap4 {ms : List Int} {wide near : Int} (x7 x9 x10 x12 x13 : Sl) (hl : 1 ≤ ws.length) (hl2 : ws.length ≤ 24) {g : DL.G} (hg : Dr ms g) (x8 x11 : Sl) : ∃ (ws' : List W4) (g' : DL.G) (y8 y11 : Sl), ws.Perm ws' ∧ Dr ms g' ∧
    forS (rangeD (peekD 6 (unD lenD (varD 6)))) (nameT 8) (seqS (setS 11 (peekD 6 (opD modD (callG 1 0 m_law_draw nilD) (unD lenD (varD 6))))) (swapS 6 8 11 (tupD (consD (ixO 6 (varD 11)) (consD (ixO 6 (varD 8)) nilD))))) (stL os wide near ws x7 x8 x9 x10 x11 x12 x13) g = .nx (stL os wide near ws' x7 y8 x9 x10 y11 x12 x13) g' := by
  have len : ∀ (W : List W4) (y8 y11 : Sl) (g : DL.G), (unD lenD (varD 6)) ((stL os wide near W x7 y8 x9 x10 y11 x12 x13).set 6 (.sh (.list (W.map encW4)))) g = .ok (.int (W.length : Int)) g := fun W y8 y11 g => un_ok (a := .list (W.map encW4)) rfl (by show some (PyData.int ((W.map encW4).length : Int)) = _; rw [List.length_map])
  have peek : ∀ (e : Ex) (z : Int) (W : List W4) (y8 y11 : Sl) (g g1 : DL.G), e ((stL os wide near W x7 y8 x9 x10 y11 x12 x13).set 6 (.sh (.list (W.map encW4)))) g = .ok (.int z) g1 → peekD 6 e (stL os wide near W x7 y8 x9 x10 y11 x12 x13) g = .ok (.int z) g1 := fun e z W y8 y11 g g1 h => peek_ok rfl h
  obtain ⟨ρ', g', h5, hg', ws', y8, y11, rfl, P⟩ := forD_all (t := nameT 8) (body := (seqS (setS 11 (peekD 6 (opD modD (callG 1 0 m_law_draw nilD) (unD lenD (varD 6))))) (swapS 6 8 11 (tupD (consD (ixO 6 (varD 11)) (consD (ixO 6 (varD 8)) nilD)))))) (fun k : Nat => PyData.int (0 + (k : Int)))
    (fun pre ρ g => Dr ms g ∧ ∃ ws' y8 y11, ρ = stL os wide near ws' x7 y8 x9 x10 y11 x12 x13 ∧ ws.Perm ws') (List.range ws.length) (by
      rintro pre k post e ρ g ⟨hg, W, y8, y11, rfl, P⟩
      have hk := (range_pre e).2.1
      have pl := P.length_eq
      obtain ⟨j, g1, hj, hg1, ej⟩ := drawE hg (ρ := (stL os wide near W x7 (.sh (.int (0 + (k : Int)))) x9 x10 y11 x12 x13).set 6 (.sh (.list (W.map encW4)))) (i := 0) rfl (e := unD lenD (varD 6)) (m := W.length) (by omega) (fun g' => len W _ y11 g')
      have hj1 := peek _ _ _ _ _ _ _ ej
      have ix : ∀ (i : Nat) (n m : Nat) (hm : m < W.length) (ρ1 : Nv), ρ1[6]? = some (.ow (.lst (W.map encW4))) → ρ1[i]? = some (.sh (.int (m : Int))) → ixO 6 (varD i) ρ1 g1 = .ok (encW4 W[m]) g1 := fun i n m hm ρ1 q1 q2 => by
        unfold ixO
        rw [q1]
        simp only [vv q2]
        show ofO (L2.atI (W.map encW4) (m : Int)) g1 = _
        rw [L2.atI_nat (by rw [List.getElem?_map, List.getElem?_eq_getElem hm]; rfl)]
        rfl
      have hk' : k < W.length := by omega
      refine ⟨stL os wide near W x7 (.sh (.int (0 + (k : Int)))) x9 x10 y11 x12 x13, stL os wide near ((W.set k W[j]).set j W[k]) x7 (.sh (.int (k : Int))) x9 x10 (.sh (.int (j : Int))) x12 x13, g1, rfl, .inl ?_, hg1, _, _, _, rfl, P.trans (List.set_set_perm hk' hj).symm⟩
      rw [show (0 : Int) + (k : Int) = (k : Int) by omega] at hj1 ⊢
      refine (seq_eq (set_ok hj1)).trans ?_
      generalize hρ : (stL os wide near W x7 (.sh (.int (k : Int))) x9 x10 y11 x12 x13).set 11 (.sh (.int (j : Int))) = ρ1
      have q6 : ρ1[6]? = some (.ow (.lst (W.map encW4))) := by rw [← hρ]; rfl
      have q8 : ρ1[8]? = some (.sh (.int (k : Int))) := by rw [← hρ]; rfl
      have q11 : ρ1[11]? = some (.sh (.int (j : Int))) := by rw [← hρ]; rfl
      have t := tup2 (cons2 (ix 11 0 j hj ρ1 q6 q11) (cons2 (ix 8 0 k hk' ρ1 q6 q8) (es := nilD) (ds := []) rfl)) (by show 2 ≤ 1000; decide)
      have n1 : L2.ixN (W.map encW4).length (k : Int) = some k := ixNn (by rw [List.length_map]; exact hk')
      have n2 : L2.ixN (W.map encW4).length (j : Int) = some j := ixNn (by rw [List.length_map]; exact hj)
      unfold swapS stE
      rw [t]
      simp only [q6, q8, q11, n1, n2]
      rw [← hρ]
      have em : ((W.map encW4).set k (encW4 W[j])).set j (encW4 W[k]) = ((W.set k W[j]).set j W[k]).map encW4 := by rw [List.map_set, List.map_set]
      rw [em]
      rfl) (g := g) (ρ := stL os wide near ws x7 x8 x9 x10 x11 x12 x13) ⟨hg, ws, _, _, rfl, List.Perm.refl _⟩
  exact ⟨ws', g', y8, y11, P, hg', for_run (g1 := g) (range_ok (peek _ _ _ _ _ _ _ (len ws x8 x11 g)) (by omega)) h5⟩
end
end K

set_option Elab.async false
set_option linter.all false
set_option maxRecDepth 100000
set_option maxHeartbeats 400000
namespace K
open PySem DL PyProof.Rows
section
theorem fnG_rt {n : Nat} {b : Sm} {ds : List PyData} {d : PyData} {g g1 : DL.G} (h : b (.dr :: ds.map Sl.sh ++ List.replicate n .no) g = .rt d g1) : fnD n true b ds g = .ok d g1 := by
  unfold fnD
  rw [if_pos rfl, h]
theorem share2 {f : Ow} {ds : List PyData} {ρ : Nv} {g g1 : DL.G} (h : f ρ g = .ok (.lst ds) g1) : shareO f ρ g = .ok (.list ds) g1 := by
  simp [h]
theorem un2 {o : PyData → Option PyData} {e : Ex} {a d : PyData} {ρ : Nv} {g g1 : DL.G} (h1 : e ρ g = .ok a g1) (h3 : o a = some d) : unD o e ρ g = .ok d g1 := by
  simp [h1, h3]
theorem ret_ok {e : Ex} {d : PyData} {ρ : Nv} {g g1 : DL.G} (h : e ρ g = .ok d g1) : retS e ρ g = .rt d g1 := by
  rw [retS_ap, h]
theorem setO_ok {i : Nat} {f : Ow} {ds : List PyData} {ρ : Nv} {g g1 : DL.G} (h : f ρ g = .ok (.lst ds) g1) : setOS i f ρ g = .nx (ρ.set i (.ow (.lst ds))) g1 := by
  unfold setOS
  rw [h]
  rfl
theorem items_ok {e : Ex} {ds : List PyData} {ρ : Nv} {g g1 : DL.G} (h : e ρ g = .ok (.list ds) g1) : itemsD e ρ g = .ok ds g1 := by
  simp [h]
theorem items_tup {e : Ex} {ds : List PyData} {ρ : Nv} {g g1 : DL.G} (h : e ρ g = .ok (.tuple ds) g1) : itemsD e ρ g = .ok ds g1 := by
  simp [h]
theorem pick_list {ms : List Int} {g : DL.G} (hg : Dr ms g) {ρ : Nv} {i : Nat} (hi : ρ[i]? = some .dr) {e c : Ex} {ds : List PyData} (he : ∀ g, e ρ g = .ok (.list ds) g) (hc : ∀ g, c ρ g = .ok (.int (ds.length : Int)) g) (h0 : ds ≠ []) : ∃ (d : PyData) (g' : DL.G), d ∈ ds ∧ Dr ms g' ∧ opD ixD e (opD modD (callG 1 i m_law_draw nilD) c) ρ g = .ok d g' := by
  obtain ⟨k, g1, hk, hg1, h⟩ := drawE hg hi (List.length_pos_iff.mpr h0) hc
  exact ⟨ds[k], g1, List.getElem_mem hk, hg1, op2 (he g) h (L2.atI_nat (List.getElem?_eq_getElem hk))⟩
theorem lottery_ok {ms : List Int} {g : DL.G} (hg : Dr ms g) : ∃ os ws g', Vl os ws ∧ Dr ms g' ∧ m_law_lottery [.int 8] g = .ok (encL os ws) g' := by
  obtain ⟨d, g1, hd, hg1, e1⟩ := drawE hg (ρ := [.dr, .sh (.int 8), .no, .no, .no, .no, .no, .no, .no, .no, .no, .no, .no, .no]) (i := 0) rfl (e := varD 1) (m := 8) (by decide) (fun _ => rfl)
  have s1 := set_ok (i := 2) (op2 (o := addD) (e1 := constD (.int 1)) rfl e1 (d := .int ((1 + d : Nat) : Int)) (by rw [addI]; push_cast; rfl))
  generalize hn : 1 + d = n at s1
  obtain ⟨_, g2, h3, hg2, os, rfl, vl, vb⟩ := compD_all (t := nameT 7) (cond := yesT) (elt := opD ixD (shareO (lstO (consD (constD (.int 0)) (consD (constD (.int 2)) (consD (constD (.int 2)) nilD))))) (opD modD (callG 1 0 m_law_draw nilD) (constD (.int 3)))) (fun k : Nat => PyData.int (0 + (k : Int)))
    (fun pre ys g => Dr ms g ∧ ∃ os : List Int, ys = os.map PyData.int ∧ os.length = pre.length ∧ ∀ x ∈ os, x = 0 ∨ x = 2) (List.range n) (wipeD ([.dr, .sh (.int 8), .sh (.int (n : Int)), .no, .no, .no, .no, .no, .no, .no, .no, .no, .no, .no]) [7]) (by
      rintro pre k post e ys g ⟨hg, vs, rfl, l, v⟩
      obtain ⟨x, ga, ha, hga, ea⟩ := pick_list hg (ρ := (wipeD ([.dr, .sh (.int 8), .sh (.int (n : Int)), .no, .no, .no, .no, .no, .no, .no, .no, .no, .no, .no]) [7]).set 7 (.sh (.int (0 + (k : Int))))) (i := 0) rfl (e := shareO (lstO (consD (constD (.int 0)) (consD (constD (.int 2)) (consD (constD (.int 2)) nilD))))) (c := constD (.int 3)) (ds := [.int 0, .int 2, .int 2]) (fun _ => rfl) (fun _ => rfl) (by decide)
      obtain ⟨o, rfl, ho⟩ : ∃ o : Int, x = .int o ∧ (o = 0 ∨ o = 2) := by
        rcases List.mem_cons.mp ha with rfl | ha
        · exact ⟨0, rfl, .inl rfl⟩
        · rcases List.mem_cons.mp ha with rfl | ha
          · exact ⟨2, rfl, .inr rfl⟩
          · exact ⟨2, List.mem_singleton.mp ha, .inr rfl⟩
      refine ⟨_, g, rfl, .inr ⟨rfl, .int o, ga, ea, hga, vs ++ [o], by simp, by simp [l], fun x hx => ?_⟩⟩
      rcases List.mem_append.mp hx with z | z
      · exact v x z
      · rw [List.mem_singleton.mp z]; exact ho) (g := g1) ⟨hg1, [], rfl, rfl, fun _ h => nomatch h⟩
  rw [List.length_range] at vl
  have h4 := lc_ok (own := [7]) (range_ok (n := n) (e := varD 2) (ρ := [.dr, .sh (.int 8), .sh (.int (n : Int)), .no, .no, .no, .no, .no, .no, .no, .no, .no, .no, .no]) (g := g1) rfl (by omega)) (by rw [List.length_map, List.length_range]; omega) h3
  have s2 := set_ok (i := 3) (un2 (o := tupleD) (share2 h4) rfl)
  subst vl
  obtain ⟨x, g3, hx, hg3, e3⟩ := pick_list hg2 (ρ := [.dr, .sh (.int 8), .sh (.int (os.length : Int)), .sh (owD os), .no, .no, .no, .no, .no, .no, .no, .no, .no, .no]) (i := 0) rfl (e := shareO (lstO (consD (constD (.int 1)) (consD (constD (.int 8)) nilD)))) (c := constD (.int 2)) (ds := [.int 1, .int 8]) (fun _ => rfl) (fun _ => rfl) (by decide)
  obtain ⟨wide, rfl, hw⟩ : ∃ o : Int, x = .int o ∧ (o = 1 ∨ o = 8) := by
    rcases List.mem_cons.mp hx with rfl | ha
    · exact ⟨1, rfl, .inl rfl⟩
    · exact ⟨8, List.mem_singleton.mp ha, .inr rfl⟩
  have s3 := set_ok (i := 4) e3
  obtain ⟨near, g4, _, hg4, e4⟩ := drawE hg3 (ρ := [.dr, .sh (.int 8), .sh (.int (os.length : Int)), .sh (owD os), .sh (.int wide), .no, .no, .no, .no, .no, .no, .no, .no, .no]) (i := 0) rfl (e := constD (.int 3)) (m := 3) (by decide) (fun _ => rfl)
  have s4 := set_ok (i := 5) e4
  have s5 : setOS 6 (lstO nilD) [.dr, .sh (.int 8), .sh (.int (os.length : Int)), .sh (owD os), .sh (.int wide), .sh (.int (near : Int)), .no, .no, .no, .no, .no, .no, .no, .no] g4 = .nx (stL os wide near [] .no .no .no .no .no .no .no) g4 := rfl
  obtain ⟨ρ', g5, s6, hg5, ws, y7, y8, y9, y10, y12, y13, rfl, Vw⟩ := forD_all (t := nameT 7) (body := roomS4) (fun k : Nat => PyData.int (0 + (k : Int)))
    (fun pre ρ g => Dr ms g ∧ ∃ ws y7 y8 y9 y10 y12 y13, ρ = stL os wide near ws y7 y8 y9 y10 .no y12 y13 ∧ Vp os pre.length ws) (List.range os.length) (by
      rintro pre k post e ρ g ⟨hg, ws, y7, y8, y9, y10, y12, y13, rfl, Vw⟩
      obtain ⟨pk, hk, _⟩ := range_pre e
      rw [pk] at Vw
      obtain ⟨ws', g', z8, z9, z10, z12, z13, V2, hg', h⟩ := room4 hg (near := near) hw hk (by omega) vb Vw y8 y9 y10 .no y12 y13
      rw [show ((k : Nat) : Int) = 0 + (k : Int) by omega] at h
      exact ⟨_, _, g', rfl, .inl h, hg', ws', _, _, _, _, _, _, rfl, by rw [List.length_append, pk]; exact V2⟩) (g := g4) (ρ := stL os wide near [] .no .no .no .no .no .no .no) ⟨hg4, [], _, _, _, _, _, _, rfl, ⟨Nat.le_refl _, fun _ h => (nomatch h), fun _ h => (nomatch h), fun _ h => (nomatch h), fun _ h => (nomatch h), fun _ h => (nomatch h)⟩⟩
  rw [List.length_range] at Vw
  have V := Vw.vl (by omega) (by omega) vb
  obtain ⟨ws', g6, z8, z11, P, hg6, s7⟩ := swap4 (os := os) (ws := ws) (wide := wide) (near := near) y7 y9 y10 y12 y13 V.l1 V.l2 hg5 y8 .no
  refine ⟨os, ws', g6, V.perm P, hg6, ?_⟩
  unfold m_law_lottery
  refine fnG_rt ?_
  show b_law_lottery [.dr, .sh (.int 8), .no, .no, .no, .no, .no, .no, .no, .no, .no, .no, .no, .no] g = _
  unfold b_law_lottery
  refine (seq_eq s1).trans ((seq_eq s2).trans ((seq_eq s3).trans ((seq_eq s4).trans ((seq_eq s5).trans ((seq_eq (for_run (g1 := g4) (range_ok (n := os.length) rfl (by omega)) s6)).trans ((seq_eq s7).trans ((shut_eq (ds := ws'.map encW4) rfl).trans ?_)))))))
  rfl
end
end K

set_option Elab.async false
set_option linter.all false
set_option maxRecDepth 100000
set_option maxHeartbeats 400000
namespace K
open PySem DL PyProof.Rows
section
variable {os : List Int} {ws : List W4} {p : List (Option Nat)}
theorem ix_owD {r : Nat} (hr : r < os.length) : ixD (owD os) (.int (r : Int)) = some (.int (os[r]?.getD 0)) := by
  rw [List.getElem?_eq_getElem hr]
  exact ix_map PyData.int os r os[r] (List.getElem?_eq_getElem hr)
theorem len_owD : lenD (owD os) = some (.int (os.length : Int)) := by
  show some (PyData.int (((os.map PyData.int).length : Nat) : Int)) = _
  rw [List.length_map]
theorem ix_own (ρ : Nv) {i : Nat} (g : DL.G) (h : ρ[i]? = some (.sh (encL os ws))) : opD ixD (varD i) (constD (.int 0)) ρ g = .ok (owD os) g := op2 (b := .int 0) (vv h) rfl (ix0 _ _)
theorem ix_wys (ρ : Nv) {i : Nat} (g : DL.G) (h : ρ[i]? = some (.sh (encL os ws))) : opD ixD (varD i) (constD (.int 1)) ρ g = .ok (wyD ws) g := op2 (b := .int 1) (vv h) rfl (ix1 _ _ _)
theorem ix_way {k : Nat} (hk : k < ws.length) : ixD (wyD ws) (.int (k : Int)) = some (encW4 (ws[k]?.getD w0)) := by
  rw [List.getElem?_eq_getElem hk]
  exact ix_map encW4 ws k ws[k] (List.getElem?_eq_getElem hk)
theorem plan_drawn {ms : List Int} {g : DL.G} (V : Vl os ws) (hg : Dr ms g) : ∃ p g', Plan os ws p ∧ Dr ms g' ∧ m_law_plan [encL os ws] g = .ok (plD p) g' := by
  have n2 := V.n2
  have l2 := V.l2
  obtain ⟨ρ', g1, h1, hg1, p, y3, y4, rfl, pl, pk⟩ := forD_all (t := nameT 3) (body := (seqS (setS 4 (callD 2 m_law_places (consD (varD 1) (consD (varD 3) nilD))))
    (appS 2 (ifD (boolD (opD eqD (opD ixD (opD ixD (varD 1) (constD (.int 0))) (varD 3)) (constD (.int 0)))) (opD ixD (varD 4) (opD modD (callG 1 0 m_law_draw nilD) (unD lenD (varD 4)))) (constD .none))))) (fun k : Nat => PyData.int (0 + (k : Int)))
    (fun pre ρ g => Dr ms g ∧ ∃ (p : List (Option Nat)) (y3 y4 : Sl), ρ = [.dr, .sh (encL os ws), .ow (.lst (p.map encK)), y3, y4] ∧ p.length = pre.length ∧ ∀ r, r < p.length → p[r]?.getD none ∈ optsC os ws r) (List.range os.length) (by
      rintro pre r post e ρ g ⟨hg, p, y3, y4, rfl, pl, pk⟩
      obtain ⟨pr, hr, _⟩ := range_pre e
      have s1 : setS 4 (callD 2 m_law_places (consD (varD 1) (consD (varD 3) nilD))) [.dr, .sh (encL os ws), .ow (.lst (p.map encK)), .sh (.int (r : Int)), y4] g = .nx [.dr, .sh (encL os ws), .ow (.lst (p.map encK)), .sh (.int (r : Int)), .sh (.list ((chs ws r).map natD))] g := set_ok (call_ok (ds := [encL os ws, .int (r : Int)]) rfl rfl (lawPlaces_ok l2 r g))
      have fin : ∀ (k : Option Nat) (g' : DL.G), Dr ms g' → k ∈ optsC os ws r → (ifD (boolD (opD eqD (opD ixD (opD ixD (varD 1) (constD (.int 0))) (varD 3)) (constD (.int 0)))) (opD ixD (varD 4) (opD modD (callG 1 0 m_law_draw nilD) (unD lenD (varD 4)))) (constD .none)) [.dr, .sh (encL os ws), .ow (.lst (p.map encK)), .sh (.int (r : Int)), .sh (.list ((chs ws r).map natD))] g = .ok (encK k) g' →
          ∃ ρ1 ρ2 g2, nameT 3 (PyData.int (0 + (r : Int))) [.dr, .sh (encL os ws), .ow (.lst (p.map encK)), y3, y4] = some ρ1 ∧ ((seqS (setS 4 (callD 2 m_law_places (consD (varD 1) (consD (varD 3) nilD))))
            (appS 2 (ifD (boolD (opD eqD (opD ixD (opD ixD (varD 1) (constD (.int 0))) (varD 3)) (constD (.int 0)))) (opD ixD (varD 4) (opD modD (callG 1 0 m_law_draw nilD) (unD lenD (varD 4)))) (constD .none)))) ρ1 g = .nx ρ2 g2 ∨ (seqS (setS 4 (callD 2 m_law_places (consD (varD 1) (consD (varD 3) nilD))))
            (appS 2 (ifD (boolD (opD eqD (opD ixD (opD ixD (varD 1) (constD (.int 0))) (varD 3)) (constD (.int 0)))) (opD ixD (varD 4) (opD modD (callG 1 0 m_law_draw nilD) (unD lenD (varD 4)))) (constD .none)))) ρ1 g = .ct ρ2 g2) ∧
            Dr ms g2 ∧ ∃ (p : List (Option Nat)) (y3 y4 : Sl), ρ2 = [.dr, .sh (encL os ws), .ow (.lst (p.map encK)), y3, y4] ∧ p.length = (pre ++ [r]).length ∧ ∀ r, r < p.length → p[r]?.getD none ∈ optsC os ws r := fun k g' hg' hk h => by
        rw [show (0 : Int) + (r : Int) = (r : Int) by omega]
        refine ⟨_, [.dr, .sh (encL os ws), .ow (.lst ((p ++ [k]).map encK)), .sh (.int (r : Int)), .sh (.list ((chs ws r).map natD))], g', rfl, .inl ((seq_eq s1).trans ?_), hg', p ++ [k], _, _, rfl, by simp [pl], fun q hq => ?_⟩
        · rw [app_ok (ds := p.map encK) h rfl (by rw [List.length_map]; omega), List.map_append]
          rfl
        · rw [List.length_append] at hq
          have hq : q < p.length + 1 := hq
          by_cases hqp : q < p.length
          · rw [List.getElem?_append_left hqp]; exact pk q hqp
          · obtain rfl : q = p.length := by omega
            rw [List.getElem?_append_right (Nat.le_refl _), Nat.sub_self]
            rw [pl, pr]; exact hk
      generalize hρ : [Sl.dr, .sh (encL os ws), .ow (.lst (p.map encK)), .sh (.int (r : Int)), .sh (.list ((chs ws r).map natD))] = ρ at fin
      have hb := bad_eq (b := constD (.int 0)) (y := 0) (op2 (o := ixD) (e2 := varD 3) (g2 := g) (ix_own ρ (i := 1) g (by rw [← hρ]; rfl)) (by rw [← hρ]; rfl) (ix_owD hr)) rfl
      have ho := V.o _ (List.getElem_mem hr)
      have hz : os[r]?.getD 0 = os[r] := by rw [List.getElem?_eq_getElem hr]; rfl
      rcases ho with h0 | h2
      · rw [hz, h0, decide_eq_true rfl] at hb
        obtain ⟨d, g', hd, hg', hp⟩ := pick_list hg (ρ := ρ) (i := 0) (by rw [← hρ]; rfl) (e := varD 4) (c := unD lenD (varD 4)) (ds := (chs ws r).map natD) (fun _ => by rw [← hρ]; rfl) (fun _ => by rw [← hρ]; rfl) (fun z => V.ne hr (List.map_eq_nil_iff.mp z))
        obtain ⟨k, hk, rfl⟩ := List.mem_map.mp hd
        exact fin (some k) g' hg' (by unfold optsC; rw [hz, h0, if_neg (by decide)]; exact List.mem_map_of_mem hk) ((if_d hb).trans hp)
      · rw [hz, h2, decide_eq_false (by decide)] at hb
        exact fin none g hg (by unfold optsC; rw [hz, h2, if_pos rfl]; exact List.mem_cons_self) ((if_d hb).trans rfl)) (g := g) (ρ := [.dr, .sh (encL os ws), .ow (.lst []), .no, .no]) ⟨hg, [], _, _, rfl, rfl, fun _ h => nomatch h⟩
  rw [List.length_range] at pl
  refine ⟨p, g1, ⟨pl, fun r hr => pk r (by omega)⟩, hg1, ?_⟩
  unfold m_law_plan
  refine fnG_rt ?_
  show b_law_plan [.dr, .sh (encL os ws), .no, .no, .no] g = _
  unfold b_law_plan
  refine (seq_eq (ρ1 := [.dr, .sh (encL os ws), .ow (.lst []), .no, .no]) (g1 := g) rfl).trans ((seq_eq (for_run (g1 := g) (range_ok (n := os.length) (un2 (ix_own _ g rfl) len_owD) (by omega)) h1)).trans ((shut_eq (ds := p.map encK) rfl).trans rfl))
theorem walk_drawn {ms : List Int} {g : DL.G} (V : Vl os ws) (h : Plan os ws p) (hg : Dr ms g) {room : Nat} (hr : room < os.length) : ∃ (ks : List Nat) (g' : DL.G), (∀ k ∈ ks, k < ws.length) ∧ ks.length ≤ 5 ∧ Dr ms g' ∧ m_law_walk [encL os ws, plD p, .int (room : Int)] g = .ok (.list (ks.map natD)) g' := by
  have n2 := V.n2
  have l2 := V.l2
  have hpl := h.l
  obtain ⟨m, g1, hm, hg1, e1⟩ := drawE hg (ρ := [.dr, .sh (encL os ws), .sh (plD p), .sh (.int (room : Int)), .ow (.lst []), .no, .no, .no]) (i := 0) rfl (e := constD (.int 6)) (m := 6) (by decide) (fun _ => rfl)
  obtain ⟨ρ', g2, h2, hg2, ks, r, y5, y6, rfl, kl, kk, hr'⟩ := forD_all (t := nameT 5) (body := (seqS (setOS 6 (lcO (itemsD (callD 2 m_law_places (consD (varD 1) (consD (varD 3) nilD)))) [7] (nameT 7) (orT (boolD (unD isNoneD (opD ixD (varD 2) (varD 3)))) (boolD (opD eqD (opD ixD (varD 2) (varD 3)) (varD 7)))) (varD 7))) (shutS 6 (seqS (appS 4 (ifD (boolD (opD (cmpD fun i j => decide (j < i)) (opD modD (callG 1 0 m_law_draw nilD) (constD (.int 8))) (constD (.int 0)))) (opD ixD (varD 6) (opD modD (callG 1 0 m_law_draw nilD) (unD lenD (varD 6)))) (opD modD (callG 1 0 m_law_draw nilD) (unD lenD (opD ixD (varD 1) (constD (.int 1)))))))
      (setS 3 (peekD 4 (opD ixD (opD ixD (opD ixD (varD 1) (constD (.int 1))) (opD ixD (varD 4) (opD subD (unD lenD (varD 4)) (constD (.int 1))))) (constD (.int 1))))))))) (fun k : Nat => PyData.int (0 + (k : Int)))
    (fun pre ρ g => Dr ms g ∧ ∃ (ks : List Nat) (r : Nat) (y5 y6 : Sl), ρ = [.dr, .sh (encL os ws), .sh (plD p), .sh (.int (r : Int)), .ow (.lst (ks.map natD)), y5, y6, .no] ∧ ks.length = pre.length ∧ (∀ k ∈ ks, k < ws.length) ∧ r < os.length) (List.range m) (by
      rintro pre i post e ρ g ⟨hg, ks, r, y5, y6, rfl, kl, kk, hr⟩
      obtain ⟨pi, hi, _⟩ := range_pre e
      have e2 := ix_pl (p := p) (r := r) (by omega)
      have hcl := chs_len ws r
      have s1 : setOS 6 (lcO (itemsD (callD 2 m_law_places (consD (varD 1) (consD (varD 3) nilD)))) [7] (nameT 7) (orT (boolD (unD isNoneD (opD ixD (varD 2) (varD 3)))) (boolD (opD eqD (opD ixD (varD 2) (varD 3)) (varD 7)))) (varD 7)) [.dr, .sh (encL os ws), .sh (plD p), .sh (.int (r : Int)), .ow (.lst (ks.map natD)), .sh (.int (0 + (i : Int))), y6, .no] g =
          .nx [.dr, .sh (encL os ws), .sh (plD p), .sh (.int (r : Int)), .ow (.lst (ks.map natD)), .sh (.int (0 + (i : Int))), .ow (.lst ((stepsP ws p r).map natD)), .no] g := by
        rw [← steps_filter h hr]
        refine setO_ok (lc_ok (g1 := g) (ds := (chs ws r).map natD) (items_ok (call_ok (ds := [encL os ws, .int (r : Int)]) rfl rfl (lawPlaces_ok l2 r g))) (by rw [List.length_map]; omega) ?_)
        exact compD_pure (t := nameT 7) (cond := orT (boolD (unD isNoneD (opD ixD (varD 2) (varD 3)))) (boolD (opD eqD (opD ixD (varD 2) (varD 3)) (varD 7)))) (elt := varD 7) natD (fun k => decide (p[r]?.getD none = none ∨ p[r]?.getD none = some k)) natD (chs ws r) [.dr, .sh (encL os ws), .sh (plD p), .sh (.int (r : Int)), .ow (.lst (ks.map natD)), .sh (.int (0 + (i : Int))), y6, .no] g fun k _ => ⟨_, rfl, by
          generalize p[r]?.getD none = a at e2 ⊢
          generalize plD p = PD at e2 ⊢
          cases a with
          | none => simp [e2, encK]
          | some j =>
            by_cases hjk : j = k
            · subst hjk; simp [e2, encK, eqD]
            · have h' : ¬ ((j : Int) = (k : Int)) := by omega
              simp [e2, encK, eqD, hjk, h'], fun _ => by
          simp⟩
      generalize hρ : [Sl.dr, .sh (encL os ws), .sh (plD p), .sh (.int (r : Int)), .ow (.lst (ks.map natD)), .sh (.int (0 + (i : Int))), .sh (.list ((stepsP ws p r).map natD)), .no] = ρ
      have ha : ∃ (k : Nat) (g' : DL.G), k < ws.length ∧ Dr ms g' ∧ (ifD (boolD (opD (cmpD fun i j => decide (j < i)) (opD modD (callG 1 0 m_law_draw nilD) (constD (.int 8))) (constD (.int 0)))) (opD ixD (varD 6) (opD modD (callG 1 0 m_law_draw nilD) (unD lenD (varD 6)))) (opD modD (callG 1 0 m_law_draw nilD) (unD lenD (opD ixD (varD 1) (constD (.int 1)))))) ρ g = .ok (natD k) g' := by
        obtain ⟨c, g1, hc, hg1, e1⟩ := drawE hg (ρ := ρ) (i := 0) (by rw [← hρ]; rfl) (e := constD (.int 8)) (m := 8) (by decide) (fun _ => rfl)
        have hb := gt_ok (b := constD (.int 0)) (y := 0) e1 rfl
        by_cases h0 : (0 : Int) < (c : Int)
        · rw [decide_eq_true h0] at hb
          obtain ⟨d, g', hd, hg', hp⟩ := pick_list hg1 (ρ := ρ) (i := 0) (by rw [← hρ]; rfl) (e := varD 6) (c := unD lenD (varD 6)) (ds := (stepsP ws p r).map natD) (fun _ => by rw [← hρ]; rfl) (fun _ => by rw [← hρ]; rfl) (fun z => steps_ne V h hr (List.map_eq_nil_iff.mp z))
          obtain ⟨k, hk, rfl⟩ := List.mem_map.mp hd
          obtain ⟨w, w1, _⟩ := steps_mem h hr hk
          exact ⟨k, g', (List.getElem?_eq_some_iff.mp w1).1, hg', (if_d hb).trans hp⟩
        · rw [decide_eq_false h0] at hb
          obtain ⟨k, g', hk, hg', hp⟩ := drawE hg1 (ρ := ρ) (i := 0) (by rw [← hρ]; rfl) (e := unD lenD (opD ixD (varD 1) (constD (.int 1)))) (m := ws.length) (by have := V.l1; omega) (fun g' => un2 (ix_wys ρ (i := 1) g' (by rw [← hρ]; rfl)) (by show some (PyData.int (((ws.map encW4).length : Nat) : Int)) = _; rw [List.length_map]))
          exact ⟨k, g', hk, hg', (if_d hb).trans hp⟩
      obtain ⟨k, g', hk, hg', ea⟩ := ha
      have s2 := app_ok (i := 4) (ds := ks.map natD) ea (by rw [← hρ]; rfl) (by rw [List.length_map]; omega)
      rw [← hρ] at s2
      have em : ks.map natD ++ [natD k] = (ks ++ [k]).map natD := by rw [List.map_append]; rfl
      have hwk := V.w ws[k] (List.getElem_mem hk)
      refine ⟨_, [.dr, .sh (encL os ws), .sh (plD p), .sh (.int (ws[k].2.1 : Int)), .ow (.lst ((ks ++ [k]).map natD)), .sh (.int (0 + (i : Int))), .sh (.list ((stepsP ws p r).map natD)), .no], g', rfl, .inl ?_, hg', ks ++ [k], ws[k].2.1, _, _, rfl, by simp [kl], fun x hx => ?_, hwk.2.1⟩
      · refine (seq_eq s1).trans ((shut_eq (ds := (stepsP ws p r).map natD) rfl).trans ((seq_eq s2).trans ?_))
        rw [em]
        refine (set_ok (peek_ok (ds := (ks ++ [k]).map natD) (z := (ws[k].2.1 : Int)) rfl ?_)).trans rfl
        have i1 : opD ixD (varD 4) (opD subD (unD lenD (varD 4)) (constD (.int 1))) [Sl.dr, .sh (encL os ws), .sh (plD p), .sh (.int (r : Int)), .sh (.list ((ks ++ [k]).map natD)), .sh (.int (0 + (i : Int))), .sh (.list ((stepsP ws p r).map natD)), .no] g' = .ok (natD k) g' := by
          refine op2 (a := .list ((ks ++ [k]).map natD)) (b := .int (ks.length : Int)) rfl (op2 (o := subD) (a := .int ((((ks ++ [k]).map natD).length : Nat) : Int)) (b := .int 1) rfl rfl ?_) ?_
          · rw [subI, List.length_map, List.length_append]
            show some (PyData.int (((ks.length + 1 : Nat) : Int) - 1)) = _
            congr 2
            omega
          · exact ix_mapl natD (ks ++ [k]) ks.length k (by rw [List.getElem?_append_right (Nat.le_refl _), Nat.sub_self]; rfl)
        have i2 := op2 (o := ixD) (ix_wys (os := os) (ws := ws) _ (i := 1) g' rfl) i1 (ix_way hk)
        refine op2 (o := ixD) (b := .int 1) i2 rfl ?_
        rw [List.getElem?_eq_getElem hk]
        exact ix1 _ _ _
      · rcases List.mem_append.mp hx with z | z
        · exact kk x z
        · rw [List.mem_singleton.mp z]; exact hk) (g := g1) (ρ := [.dr, .sh (encL os ws), .sh (plD p), .sh (.int (room : Int)), .ow (.lst []), .no, .no, .no]) ⟨hg1, [], room, _, _, rfl, rfl, fun _ h => (nomatch h), hr⟩
  rw [List.length_range] at kl
  refine ⟨ks, g2, kk, by omega, hg2, ?_⟩
  unfold m_law_walk
  refine fnG_rt ?_
  show b_law_walk [.dr, .sh (encL os ws), .sh (plD p), .sh (.int (room : Int)), .no, .no, .no, .no] g = _
  unfold b_law_walk
  exact (seq_eq (ρ1 := [.dr, .sh (encL os ws), .sh (plD p), .sh (.int (room : Int)), .ow (.lst []), .no, .no, .no]) (g1 := g) rfl).trans ((seq_eq (for_run (g1 := g1) (range_ok (n := m) e1 (by omega)) h2)).trans ((shut_eq (ds := ks.map natD) rfl).trans rfl))
end
end K

set_option Elab.async false
set_option linter.all false
set_option maxRecDepth 100000
set_option maxHeartbeats 400000
namespace K
open PySem DL PyProof.Rows
/-! ### what is no lottery -/
section
variable {os : List Int} {ws : List W4}
theorem orT_yes {a b : Te} {ρ : Nv} {g g1 : DL.G} (h : a ρ g = .ok true g1) : orT a b ρ g = .ok true g1 := by
  unfold orT; rw [h]; rfl
theorem orT_no {a b : Te} {ρ : Nv} {g g1 : DL.G} (h : a ρ g = .ok false g1) : orT a b ρ g = b ρ g1 := by
  unfold orT; rw [h]; rfl
theorem not_call {n : Nat} {m : Fn} {fa : Ar} {ds : List PyData} {b : Bool} {ρ : Nv} {g g1 : DL.G} (h : fa ρ g = .ok ds g) (hl : ds.length = n) (k : m ds g = .ok (.bool b) g1) : notT (truthD (callD n m fa)) ρ g = .ok (!b) g1 := by
  simp [h, hl, k]
theorem within_bool (c : Bool) (a b : Int) (g : DL.G) : m_is_within [.bool c, .int a, .int b] g = .ok (.bool false) g := by
  simp [m_is_within, b_is_within, isT]
theorem within_non (a b : Int) (g : DL.G) : m_is_within [.none, .int a, .int b] g = .ok (.bool false) g := by
  simp [m_is_within, b_is_within, isT]
theorem wayBad4 {x0 x1 x2 x3 : PyData} {b0 b1 b2 b3 : Bool} {g : DL.G} (e0 : m_is_within [x0, .int 0, .int ((os.length : Int) - 1)] g = .ok (.bool b0) g) (e1 : m_is_within [x1, .int 0, .int ((os.length : Int) - 1)] g = .ok (.bool b1) g) (e2 : m_is_within [x2, .int (-8), .int 8] g = .ok (.bool b2) g) (e3 : m_is_share [x3] g = .ok (.bool b3) g)
    (h : (b0 && b1 && b2 && b3) = false) : m_is_way_of [.tuple [x0, x1, x2, x3], owD os] g = .ok (.bool false) g := by
  have t := tuple_ok [x0, x1, x2, x3] 4 rfl g
  have i2 : ixD (.tuple [x0, x1, x2, x3]) (.int 2) = some x2 := L2.atI_nat (j := 2) rfl
  have i3 : ixD (.tuple [x0, x1, x2, x3]) (.int 3) = some x3 := L2.atI_nat (j := 3) rfl
  cases b0 with
  | false => simp [m_is_way_of, b_is_way_of, t, e0]
  | true => cases b1 with
    | false => simp [m_is_way_of, b_is_way_of, t, e0, e1]
    | true => cases b2 with
      | false => simp [m_is_way_of, b_is_way_of, t, e0, e1, e2, i2]
      | true => cases b3 with
        | false => simp [m_is_way_of, b_is_way_of, t, e0, e1, e2, e3, i2, i3]
        | true => cases h
theorem wayBadN {d : PyData} {g : DL.G} (h : m_is_tuple [d, .int 4] g = .ok (.bool false) g) : m_is_way_of [d, owD os] g = .ok (.bool false) g := by
  simp [m_is_way_of, b_is_way_of, h]
def turnedL (os : List Int) (w : W4) : List PyData :=
  let s : PyData := .int (w.1 : Int); let t : PyData := .int (w.2.1 : Int); let a : PyData := .int w.2.2.1; let q := encQ w.2.2.2
  [.tuple [.int (os.length : Int), t, a, q], .tuple [s, .int (-1), a, q], .tuple [s, t, .int 9, q], .tuple [s, t, a, .tuple [.int 2, .int 4]], .tuple [s, t, a, .tuple [.int 0, .int 1]], .tuple [s, t, a, .tuple [.int 3, .int 2]], .tuple [s, t, a, .tuple [.int 1, .int 21]],
    .tuple [s, t, .bool true, q], .list [s, t, a, q], .tuple [s, t, a], .none]
theorem turned_bad {w : W4} (h1 : w.1 < os.length) (h2 : w.2.1 < os.length) (h3 : -8 ≤ w.2.2.1) (h4 : w.2.2.1 ≤ 8) (hq : Share w.2.2.2) (g : DL.G) : ∀ d ∈ turnedL os w, m_is_way_of [d, owD os] g = .ok (.bool false) g := by
  have a0 := within_ok (v := (w.1 : Int)) (a := 0) (b := (os.length : Int) - 1) ⟨by omega, by omega⟩ g
  have a1 := within_ok (v := (w.2.1 : Int)) (a := 0) (b := (os.length : Int) - 1) ⟨by omega, by omega⟩ g
  have a2 := within_ok (v := w.2.2.1) (a := -8) (b := 8) ⟨by omega, by omega⟩ g
  have a3 := share_true hq g
  have n0 : m_is_within [.int (os.length : Int), .int 0, .int ((os.length : Int) - 1)] g = .ok (.bool false) g := by rw [within_dec, decide_eq_false (by omega)]
  have n1 : m_is_within [.int (-1), .int 0, .int ((os.length : Int) - 1)] g = .ok (.bool false) g := by rw [within_dec, decide_eq_false (by omega)]
  have n2 : m_is_within [.int 9, .int (-8), .int 8] g = .ok (.bool false) g := by rw [within_dec, decide_eq_false (by omega)]
  have s1 : m_is_share [.tuple [.int 2, .int 4]] g = .ok (.bool false) g := by rw [isShare_ok]; rfl
  have s2 : m_is_share [.tuple [.int 0, .int 1]] g = .ok (.bool false) g := by rw [isShare_ok]; rfl
  have s3 : m_is_share [.tuple [.int 3, .int 2]] g = .ok (.bool false) g := by rw [isShare_ok]; rfl
  have s4 : m_is_share [.tuple [.int 1, .int 21]] g = .ok (.bool false) g := by rw [isShare_ok]; rfl
  intro d hd
  unfold turnedL at hd
  simp only [List.mem_cons, List.not_mem_nil, or_false] at hd
  rcases hd with rfl | rfl | rfl | rfl | rfl | rfl | rfl | rfl | rfl | rfl | rfl
  · exact wayBad4 n0 a1 a2 a3 rfl
  · exact wayBad4 a0 n1 a2 a3 rfl
  · exact wayBad4 a0 a1 n2 a3 rfl
  · exact wayBad4 a0 a1 a2 s1 rfl
  · exact wayBad4 a0 a1 a2 s2 rfl
  · exact wayBad4 a0 a1 a2 s3 rfl
  · exact wayBad4 a0 a1 a2 s4 rfl
  · exact wayBad4 a0 a1 (within_bool true _ _ g) a3 rfl
  · exact wayBadN (by simp [m_is_tuple, b_is_tuple, isT])
  · exact wayBadN (by rw [isTuple_any]; rfl)
  · exact wayBadN (by simp [m_is_tuple, b_is_tuple, isT])
def othersL (os : List Int) (ws : List W4) (A B : List W4) (bad : PyData) : List PyData :=
  [.tuple [owD os, .tuple (A.map encW4 ++ [bad] ++ B.map encW4)], .tuple [.tuple (os.map PyData.int ++ [.int 1]), wyD ws], .tuple [.tuple (os.map PyData.int ++ [.int 0]), wyD ws], .list [owD os, wyD ws], .tuple [owD os, .list (ws.map encW4)], .tuple [.list (os.map PyData.int), wyD ws],
    .tuple [owD os, .tuple []], .tuple [.tuple [], wyD ws], .tuple [owD os, wyD ws, .tuple []], .none, .tuple [owD os, .tuple (List.replicate 25 (ws.map encW4)).flatten]]
theorem isLot_of {d : PyData} {g : DL.G} (h : b_is_lottery [.sh d, .no, .no, .no, .no, .no, .no, .no] g = .rt (.bool false) g) : m_is_lottery [d] g = .ok (.bool false) g := by
  unfold m_is_lottery
  exact fn_rt h
theorem toCx (xs : List PyData) (h1 : 1 ≤ xs.length) (h8 : xs.length ≤ 8) (W : PyData) {g : DL.G} {r : SR} (h : (seqS sC (seqS sD (seqS sE (seqS sF (retS (constD (.bool true))))))) (st8 (.tuple xs) W .no .no) g = r) : b_is_lottery [.sh (.tuple [.tuple xs, W]), .no, .no, .no, .no, .no, .no, .no] g = r := by
  rw [body_lot]
  refine (seq_eq (A_ok xs W h1 h8 g)).trans ?_
  exact (seq_eq (ρ1 := st8 (.tuple xs) W .no .no) (g1 := g) (by simp)).trans h
theorem toC (V : Vl os ws) (W : PyData) {g : DL.G} {r : SR} (h : (seqS sC (seqS sD (seqS sE (seqS sF (retS (constD (.bool true))))))) (st8 (owD os) W .no .no) g = r) : b_is_lottery [.sh (.tuple [owD os, W]), .no, .no, .no, .no, .no, .no, .no] g = r :=
  toCx (os.map PyData.int) (by rw [List.length_map]; exact V.n1) (by rw [List.length_map]; exact V.n2) W h
theorem tooLong (xs : List PyData) (W : PyData) (h : xs.length = 0 ∨ 8 < xs.length) (g : DL.G) : b_is_lottery [.sh (.tuple [.tuple xs, W]), .no, .no, .no, .no, .no, .no, .no] g = .rt (.bool false) g := by
  rw [body_lot]
  exact seq_rt (A_len xs W h g)
theorem flat_len {α : Type} (l : List α) (n : Nat) : (List.replicate n l).flatten.length = n * l.length := by
  induction n with
  | zero => simp
  | succ n ih => rw [List.replicate_succ, List.flatten_cons, List.length_append, ih, Nat.succ_mul]; omega
theorem other0 (V : Vl os ws) {A B : List W4} {w : W4} (hw : ws = A ++ w :: B) {bad : PyData} (hb : ∀ g, m_is_way_of [bad, owD os] g = .ok (.bool false) g) (g : DL.G) : m_is_lottery [.tuple [owD os, .tuple (A.map encW4 ++ [bad] ++ B.map encW4)]] g = .ok (.bool false) g := by
  have n1 := V.n1
  have n2 := V.n2
  have l1 := V.l1
  have l2 := V.l2
  have hl : A.length + 1 + B.length = ws.length := by rw [hw, List.length_append, List.length_cons]; omega
  have sub : ∀ v, v ∈ A ∨ v ∈ B → v ∈ ws := fun v h => by
    rw [hw, List.mem_append, List.mem_cons]
    rcases h with h | h
    · exact .inl h
    · exact .inr (.inr h)
  refine isLot_of (toC V _ ?_)
  refine (seq_eq (C_ok _ os V.o (by omega) g)).trans ?_
  refine (seq_eq (D_ok (owD os) (A.map encW4 ++ [bad] ++ B.map encW4) (by simp; omega) (by simp; omega) g)).trans ?_
  exact seq_rt (E_bad (owD os) bad A B (by omega) g (fun v h => wayOf_ok V (sub v h) g) (hb g))
theorem other1 (V : Vl os ws) (g : DL.G) : m_is_lottery [.tuple [.tuple (os.map PyData.int ++ [.int 1]), wyD ws]] g = .ok (.bool false) g := by
  have n1 := V.n1
  have n2 := V.n2
  have em : os.map PyData.int ++ [PyData.int 1] = (os ++ [1]).map PyData.int := by rw [List.map_append]; rfl
  by_cases h8 : os.length + 1 ≤ 8
  · have l1 : 1 ≤ ((os ++ [1]).map PyData.int).length := by rw [List.length_map, List.length_append]; omega
    have l2 : ((os ++ [1]).map PyData.int).length ≤ 8 := by rw [List.length_map, List.length_append]; exact h8
    have c := C_one (wyD ws) os V.o (by omega) g
    rw [em]
    generalize (os ++ [1]).map PyData.int = xs at l1 l2 c ⊢
    generalize wyD ws = W at c ⊢
    exact isLot_of (toCx xs l1 l2 W (seq_rt c))
  · refine isLot_of ?_
    exact tooLong _ _ (.inr (by rw [List.length_append, List.length_map]; show 8 < os.length + 1; omega)) g
theorem F_none (V : Vl os ws) (h8 : os.length + 1 ≤ 8) (g : DL.G) : sF (st8 (owD (os ++ [0])) (wyD ws) .no .no) g = .rt (.bool false) g := by
  have n1 := V.n1
  have n2 := V.n2
  have l1 := V.l1
  have l2 := V.l2
  have up : ∀ r, r < os.length → (os ++ [0])[r]?.getD 0 = os[r]?.getD 0 := fun r hr => by rw [List.getElem?_append_left hr]
  have none : chs ws os.length = [] := by
    refine List.eq_nil_iff_forall_not_mem.mpr fun k hk => ?_
    obtain ⟨v, h1, h2⟩ := chs_mem.mp hk
    have := (V.w v (List.mem_of_getElem? h1)).1
    omega
  have f := forD_find (t := nameT 1) (body := tF) (fun k : Nat => PyData.int (0 + (k : Int))) (fun ρ => ∃ x1 x4, ρ = st8 (owD (os ++ [0])) (wyD ws) x1 x4) (fun r => decide (r = os.length)) (fun _ => .bool false) g (List.range (os.length + 1)) (by
    rintro r hr ρ ⟨x1, x4, rfl⟩
    have hr := List.mem_range.mp hr
    refine ⟨st8 (owD (os ++ [0])) (wyD ws) (.sh (.int (r : Int))) x4, st8 (owD (os ++ [0])) (wyD ws) (.sh (.int (r : Int))) (.sh (.list ((chs ws r).map natD))), by rw [show (0 : Int) + (r : Int) = (r : Int) by omega]; rfl, ⟨_, _, rfl⟩, ?_⟩
    by_cases e : r = os.length
    · rw [if_pos (decide_eq_true e), e]
      have hp := placesFrom_ok (os := os ++ [0]) l2 os.length g
      rw [none] at hp
      refine (seq_eq (ρ1 := st8 (owD (os ++ [0])) (wyD ws) (.sh (.int (os.length : Int))) (.sh (.list []))) (g1 := g) (set_ok (call_ok (ds := [encL (os ++ [0]) ws, .int (os.length : Int)]) rfl rfl hp))).trans ?_
      rfl
    · rw [if_neg (by rw [decide_eq_false e]; decide)]
      have hr' : r < os.length := by omega
      exact F_stepX l2 V.q (by simp; omega) (V.ne hr') (fun h => V.s r hr' (by rw [← up r hr']; exact h)) x4 g) (st8 (owD (os ++ [0])) (wyD ws) .no .no) ⟨_, _, rfl⟩
  rcases f with ⟨x, _, h⟩ | ⟨h, _⟩
  · show forS _ _ _ _ _ = _
    unfold forS
    rw [range_ok (n := os.length + 1) (g1 := g) (by show DL.R.ok (PyData.int ((((os ++ [0]).map PyData.int).length : Nat) : Int)) g = _; rw [List.length_map, List.length_append]; rfl) (by omega)]
    exact h
  · have := List.find?_eq_none.mp h os.length (List.mem_range.mpr (by omega))
    simp at this
theorem other2 (V : Vl os ws) (g : DL.G) : m_is_lottery [.tuple [.tuple (os.map PyData.int ++ [.int 0]), wyD ws]] g = .ok (.bool false) g := by
  have n1 := V.n1
  have n2 := V.n2
  have w1 := V.l1
  have w2 := V.l2
  have em : os.map PyData.int ++ [PyData.int 0] = (os ++ [0]).map PyData.int := by rw [List.map_append]; rfl
  by_cases h8 : os.length + 1 ≤ 8
  · have l1 : 1 ≤ ((os ++ [0]).map PyData.int).length := by rw [List.length_map, List.length_append]; omega
    have l2 : ((os ++ [0]).map PyData.int).length ≤ 8 := by rw [List.length_map, List.length_append]; exact h8
    have c := C_ok (wyD ws) (os ++ [0]) (fun x hx => by
        rcases List.mem_append.mp hx with h | h
        · exact V.o x h
        · exact .inl (List.mem_singleton.mp h)) (by rw [List.length_append]; show os.length + 1 ≤ 1000; omega) g
    have d : sD (st8 (.tuple ((os ++ [0]).map PyData.int)) (wyD ws) .no .no) g = .nx (st8 (.tuple ((os ++ [0]).map PyData.int)) (wyD ws) .no .no) g := D_ok (owD (os ++ [0])) (ws.map encW4) (by rw [List.length_map]; omega) (by rw [List.length_map]; omega) g
    have up : ∀ r, r < os.length → (os ++ [0])[r]?.getD 0 = os[r]?.getD 0 := fun r hr => by rw [List.getElem?_append_left hr]
    have e : sE (st8 (.tuple ((os ++ [0]).map PyData.int)) (wyD ws) .no .no) g = .nx (st8 (.tuple ((os ++ [0]).map PyData.int)) (wyD ws) .no .no) g := E_ok (owD (os ++ [0])) ws (by omega) g fun v hv => by
      obtain ⟨h1, h2, h3, h4⟩ := V.w v hv
      exact wayOfX (os := os ++ [0]) (by rw [List.length_append]; omega) (by rw [List.length_append]; omega) h3 h4 (V.q v hv) (by rw [up _ h1]; exact V.z v hv) g
    have f : sF (st8 (.tuple ((os ++ [0]).map PyData.int)) (wyD ws) .no .no) g = .rt (.bool false) g := F_none V h8 g
    rw [em]
    generalize (os ++ [0]).map PyData.int = xs at l1 l2 c d e f ⊢
    generalize wyD ws = W at c d e f ⊢
    exact isLot_of (toCx xs l1 l2 W ((seq_eq c).trans ((seq_eq d).trans ((seq_eq e).trans (seq_rt f)))))
  · refine isLot_of ?_
    exact tooLong _ _ (.inr (by rw [List.length_append, List.length_map]; show 8 < os.length + 1; omega)) g
theorem others_bad (V : Vl os ws) {A B : List W4} {w : W4} (hw : ws = A ++ w :: B) {bad : PyData} (hb : ∀ g, m_is_way_of [bad, owD os] g = .ok (.bool false) g) (g : DL.G) : ∀ d ∈ othersL os ws A B bad, m_is_lottery [d] g = .ok (.bool false) g := by
  have n1 := V.n1
  have n2 := V.n2
  have l1 := V.l1
  have l2 := V.l2
  have hl : A.length + 1 + B.length = ws.length := by rw [hw, List.length_append, List.length_cons]; omega
  have sub : ∀ v, v ∈ A ∨ v ∈ B → v ∈ ws := fun v h => by
    rw [hw, List.mem_append, List.mem_cons]
    rcases h with h | h
    · exact .inl h
    · exact .inr (.inr h)
  intro d hd
  unfold othersL at hd
  simp only [List.mem_cons, List.not_mem_nil, or_false] at hd
  rcases hd with rfl | rfl | rfl | rfl | rfl | rfl | rfl | rfl | rfl | rfl | rfl
  · exact other0 V hw hb g
  · exact other1 V g
  · exact other2 V g
  · exact isLot_of (seq_rt (A_not _ g (by simp [m_is_tuple, b_is_tuple, isT])))
  · refine isLot_of (toC V _ ((seq_eq (C_ok _ os V.o (by omega) g)).trans (seq_rt (D_nt _ _ (by simp [isT]) g))))
  · exact isLot_of (seq_rt (A_nt _ _ (by simp [isT]) g))
  · refine isLot_of (toC V _ ((seq_eq (C_ok _ os V.o (by omega) g)).trans (seq_rt (D_len _ [] (.inl rfl) g))))
  · exact isLot_of (tooLong [] _ (.inl rfl) g)
  · exact isLot_of (seq_rt (A_not _ g (by rw [isTuple_any]; rfl)))
  · exact isLot_of (seq_rt (A_not _ g (by simp [m_is_tuple, b_is_tuple, isT])))
  · refine isLot_of (toC V _ ((seq_eq (C_ok _ os V.o (by omega) g)).trans (seq_rt (D_len _ _ (.inr (by rw [flat_len, List.length_map]; omega)) g))))
end
end K

set_option Elab.async false
set_option linter.all false
set_option maxRecDepth 100000
set_option maxHeartbeats 400000
namespace K
open PySem DL PyProof.Rows
section
variable {os : List Int} {ws : List W4}
theorem mul25 (ds : List PyData) (h : ds ≠ []) (hl : ds.length ≤ 1000) : mulD (.tuple ds) (.int 25) = some (.tuple (List.replicate 25 ds).flatten) := by
  show (if (25 : Int) = 1 then some (PyData.tuple ds) else if ds ≠ [] ∧ 2 ≤ (25 : Int) ∧ (25 : Int) ≤ 1000 ∧ ds.length ≤ 1000 then some (PyData.tuple (List.replicate ((25 : Int)).toNat ds).flatten) else none) = _
  rw [if_neg (by decide), if_pos ⟨h, by decide, by decide, hl⟩]
  rfl
theorem lst2 {es : Ar} {ds : List PyData} {ρ : Nv} {g g1 : DL.G} (h : es ρ g = .ok ds g1) (hl : ds.length ≤ 1000) : lstO es ρ g = .ok (.lst ds) g1 := by
  simp [h, hl]
theorem asg_ok {e : Ex} {t : Tg} {d : PyData} {ρ ρ1 : Nv} {g g1 : DL.G} (h : e ρ g = .ok d g1) (k : t d ρ = some ρ1) : asgS e t ρ g = .nx ρ1 g1 := by
  rw [asgS_ap, h]
  simp only [k]
abbrev sp11 (os : List Int) (ws : List W4) (k : Nat) (x3 x4 : Sl) (w : W4) : Nv := [.dr, .sh (encL os ws), .sh (.int (k : Int)), x3, x4, .sh (owD os), .sh (wyD ws), .sh (.int (w.1 : Int)), .sh (.int (w.2.1 : Int)), .sh (.int w.2.2.1), .sh (encQ w.2.2.2)]
theorem cut_tup {i : Nat} {ds : List PyData} {ρ : Nv} {g : DL.G} (h : ρ[i]? = some (.sh (.tuple ds))) {e : Ex} {k : Nat} (he : e ρ g = .ok (.int (k : Int)) g) (hk : k ≤ ds.length) : slD (varD i) noPart (somePart e) ρ g = .ok (.tuple (ds.take k)) g ∧ slD (varD i) (somePart e) noPart ρ g = .ok (.tuple (ds.drop k)) g := by
  have c1 := cut_lo ds k hk
  have c2 := cut_hi ds k hk
  constructor
  · rw [← c1]
    simp [slD, h, he]
  · rw [← c2]
    simp [slD, h, he]
theorem spoilt_ok {ms : List Int} {g : DL.G} (V : Vl os ws) (hg : Dr ms g) : ∃ d g', Dr ms g' ∧ m_law_spoilt [encL os ws] g = .ok d g' ∧ ∀ g, m_is_lottery [d] g = .ok (.bool false) g := by
  have l1 := V.l1
  have l2 := V.l2
  have n2 := V.n2
  have wl : (ws.map encW4).length = ws.length := List.length_map _
  have ol : (os.map PyData.int).length = os.length := List.length_map _
  obtain ⟨k, g1, hk, hg1, e1⟩ := drawE hg (ρ := [.dr, .sh (encL os ws), .no, .no, .no, .sh (owD os), .sh (wyD ws), .no, .no, .no, .no]) (i := 0) rfl (e := unD lenD (varD 6)) (m := ws.length) (by omega) (fun g' => un2 (a := wyD ws) rfl (by show some (PyData.int ((((ws.map encW4).length : Nat) : Int))) = _; rw [wl]))
  have s2 := set_ok (i := 2) e1
  generalize hw : ws[k] = w
  have i3 : opD ixD (varD 6) (varD 2) [.dr, .sh (encL os ws), .sh (.int (k : Int)), .no, .no, .sh (owD os), .sh (wyD ws), .no, .no, .no, .no] g1 = .ok (encW4 w) g1 := op2 (o := ixD) (a := wyD ws) (b := .int (k : Int)) rfl rfl (by rw [ix_way hk, List.getElem?_eq_getElem hk, ← hw]; rfl)
  have s3 : asgS (opD ixD (varD 6) (varD 2)) (tupT (consT (nameT 7) (consT (nameT 8) (consT (nameT 9) (consT (nameT 10) nilT))))) [.dr, .sh (encL os ws), .sh (.int (k : Int)), .no, .no, .sh (owD os), .sh (wyD ws), .no, .no, .no, .no] g1 = .nx (sp11 os ws k .no .no w) g1 := asg_ok i3 rfl
  have hws : ws = ws.take k ++ w :: ws.drop (k + 1) := by rw [← hw, List.getElem_cons_drop, List.take_append_drop]
  obtain ⟨h1, h2, h3, h4⟩ := V.w w (by rw [← hw]; exact List.getElem_mem hk)
  have hq := V.q w (by rw [← hw]; exact List.getElem_mem hk)
  obtain ⟨bad, g2, hb, hg2, e4⟩ := pick_list hg1 (ρ := sp11 os ws k (.sh (.list (turnedL os w))) .no w) (i := 0) rfl (e := varD 3) (c := unD lenD (varD 3)) (ds := turnedL os w) (fun _ => rfl) (fun _ => rfl) (by unfold turnedL; simp)
  have hbad := fun g => turned_bad h1 h2 h3 h4 hq g bad hb
  have all := fun g => others_bad V hws hbad g
  have s5 : setS 4 (shareO (lstO (consD (tupD (consD (varD 5) (consD (opD addD (opD addD (slD (varD 6) noPart (somePart (varD 2))) (tupD (consD (opD ixD (varD 3) (opD modD (callG 1 0 m_law_draw nilD) (unD lenD (varD 3)))) nilD))) (slD (varD 6) (somePart (opD addD (varD 2) (constD (.int 1)))) noPart)) nilD))) (consD (tupD (consD (opD addD (varD 5) (tupD (consD (constD (.int 1)) nilD))) (consD (varD 6) nilD))) (consD (tupD (consD (opD addD (varD 5) (tupD (consD (constD (.int 0)) nilD))) (consD (varD 6) nilD))) (consD (shareO (lstO (consD (varD 5) (consD (varD 6) nilD)))) (consD (tupD (consD (varD 5) (consD (unD listD (varD 6)) nilD))) (consD (tupD (consD (unD listD (varD 5)) (consD (varD 6) nilD))) (consD (tupD (consD (varD 5) (consD (tupD nilD) nilD))) (consD (tupD (consD (tupD nilD) (consD (varD 6) nilD))) (consD (tupD (consD (varD 5) (consD (varD 6) (consD (tupD nilD) nilD)))) (consD (constD .none) (consD (tupD (consD (varD 5) (consD (opD mulD (varD 6) (constD (.int 25))) nilD))) nilD)))))))))))))
      (sp11 os ws k (.sh (.list (turnedL os w))) .no w) g1 = .nx (sp11 os ws k (.sh (.list (turnedL os w))) (.sh (.list (othersL os ws (ws.take k) (ws.drop (k + 1)) bad))) w) g2 := by
    generalize hρ : sp11 os ws k (.sh (.list (turnedL os w))) .no w = ρ at e4
    have v2 : ρ[2]? = some (.sh (.int (k : Int))) := by rw [← hρ]; rfl
    have v5 : ρ[5]? = some (.sh (owD os)) := by rw [← hρ]; rfl
    have v6 : ρ[6]? = some (.sh (wyD ws)) := by rw [← hρ]; rfl
    have c1 := (cut_tup (g := g1) v6 (e := varD 2) (k := k) (vv v2) (by rw [wl]; omega)).1
    have c2 := (cut_tup (g := g2) v6 (e := opD addD (varD 2) (constD (.int 1))) (k := k + 1) (op2 (o := addD) (b := .int 1) (vv v2) rfl (by rw [addI]; rfl)) (by rw [wl]; omega)).2
    have p1 := op2 (o := addD) c1 (tup2 (cons2 e4 (es := nilD) (ds := []) rfl) (by show 1 ≤ 1000; decide)) (addT _ _ (by rw [List.length_take, wl]; show _ + 1 ≤ _; omega))
    have p2 := op2 (o := addD) p1 c2 (addT _ _ (by rw [List.length_append, List.length_take, List.length_drop, wl]; show _ + 1 + _ ≤ _; omega))
    have two : ∀ {a b : Ex} {x y : PyData} {g g' g'' : DL.G}, a ρ g = .ok x g' → b ρ g' = .ok y g'' → tupD (consD a (consD b nilD)) ρ g = .ok (.tuple [x, y]) g'' := fun h1 h2 => tup2 (cons2 h1 (cons2 h2 (es := nilD) (ds := []) rfl)) (by show 2 ≤ 1000; decide)
    have q0 := two (vv v5 (g := g1)) p2
    have q1 := two (op2 (o := addD) (e2 := tupD (consD (constD (.int 1)) nilD)) (b := .tuple [.int 1]) (vv v5 (g := g2)) rfl (addT _ _ (by rw [ol]; show _ + 1 ≤ _; omega))) (vv v6)
    have q2 := two (op2 (o := addD) (e2 := tupD (consD (constD (.int 0)) nilD)) (b := .tuple [.int 0]) (vv v5 (g := g2)) rfl (addT _ _ (by rw [ol]; show _ + 1 ≤ _; omega))) (vv v6)
    have q3 := share2 (lst_ok (cons_ok (vv v5 (g := g2)) (cons_ok (vv v6) (es := nilD) (ds := []) rfl)) (by show 2 ≤ 1000; decide))
    have q4 := two (vv v5 (g := g2)) (un2 (o := listD) (vv v6 (g := g2)) rfl)
    have q5 := two (un2 (o := listD) (vv v5 (g := g2)) rfl) (vv v6 (g := g2))
    have q6 := two (vv v5 (g := g2)) (b := tupD nilD) (y := .tuple []) (g'' := g2) rfl
    have q7 := two (a := tupD nilD) (x := .tuple []) (g := g2) (g' := g2) rfl (vv v6)
    have q8 := tup2 (cons2 (vv v5 (g := g2)) (cons2 (vv v6) (cons2 (e := tupD nilD) (d := .tuple []) (g1 := g2) rfl (es := nilD) (ds := []) rfl))) (by show 3 ≤ 1000; decide)
    have q10 := two (vv v5 (g := g2)) (op2 (o := mulD) (e2 := constD (.int 25)) (b := .int 25) (vv v6 (g := g2)) rfl (mul25 _ (fun z => by rw [z] at wl; simp at wl; omega) (by rw [wl]; omega)))
    have e9 : constD PyData.none ρ g2 = .ok .none g2 := rfl
    have all := share2 (lst2 (cons2 q0 (cons2 q1 (cons2 q2 (cons2 q3 (cons2 q4 (cons2 q5 (cons2 q6 (cons2 q7 (cons2 q8 (cons2 e9 (cons2 q10 (es := nilD) (ds := []) (g2 := g2) rfl))))))))))) (by show 11 ≤ 1000; decide))
    rw [set_ok all, ← hρ]
    have em : (ws.map encW4).take k ++ [bad] ++ (ws.map encW4).drop (k + 1) = (ws.take k).map encW4 ++ [bad] ++ (ws.drop (k + 1)).map encW4 := by rw [List.map_take, List.map_drop]
    rw [em]
    rfl
  have ol11 : (othersL os ws (ws.take k) (ws.drop (k + 1)) bad).length = 11 := rfl
  generalize othersL os ws (ws.take k) (ws.drop (k + 1)) bad = OL at s5 all ol11
  obtain ⟨m, g3, hm, hg3, e6⟩ := drawE hg2 (ρ := sp11 os ws k (.sh (.list (turnedL os w))) (.sh (.list OL)) w) (i := 0) rfl (e := unD lenD (varD 4)) (m := 11) (by decide) (fun g' => un2 (a := .list OL) rfl (by show some (PyData.int ((OL.length : Nat) : Int)) = _; rw [ol11]))
  obtain ⟨c, g4, hc, hg4, e7⟩ := drawE hg3 (ρ := sp11 os ws k (.sh (.list (turnedL os w))) (.sh (.list OL)) w) (i := 0) rfl (e := constD (.int 2)) (m := 2) (by decide) (fun g' => rfl)
  have e8 : ∃ j : Nat, j < 11 ∧ opD ixD (shareO (lstO (consD (constD (.int 0)) (consD (opD modD (callG 1 0 m_law_draw nilD) (unD lenD (varD 4))) nilD)))) (opD modD (callG 1 0 m_law_draw nilD) (constD (.int 2))) (sp11 os ws k (.sh (.list (turnedL os w))) (.sh (.list OL)) w) g2 = .ok (.int (j : Int)) g4 := by
    have a := share2 (lst2 (cons2 (e := constD (.int 0)) (d := .int 0) (g := g2) rfl (cons2 e6 (es := nilD) (ds := []) (g2 := g3) rfl)) (by show 2 ≤ 1000; decide))
    rcases (by omega : c = 0 ∨ c = 1) with rfl | rfl
    · exact ⟨0, by decide, op2 a e7 (L2.atI_nat (j := 0) rfl)⟩
    · exact ⟨m, hm, op2 a e7 (L2.atI_nat (j := 1) rfl)⟩
  obtain ⟨j, hj, e8⟩ := e8
  refine ⟨OL[j]'(by omega), g4, hg4, ?_, fun g => all g _ (List.getElem_mem _)⟩
  unfold m_law_spoilt
  refine fnG_rt ?_
  show b_law_spoilt [.dr, .sh (encL os ws), .no, .no, .no, .no, .no, .no, .no, .no, .no] g = _
  unfold b_law_spoilt
  refine (seq_eq (ρ1 := [.dr, .sh (encL os ws), .no, .no, .no, .sh (owD os), .sh (wyD ws), .no, .no, .no, .no]) (g1 := g) (asg_ok (d := encL os ws) rfl rfl)).trans ((seq_eq s2).trans ((seq_eq s3).trans ((seq_eq (ρ1 := sp11 os ws k (.sh (.list (turnedL os w))) .no w) (g1 := g1) ?_).trans ((seq_eq s5).trans ?_))))
  · have q0 : tupD (consD (unD lenD (varD 5)) (consD (varD 8) (consD (varD 9) (consD (varD 10) nilD)))) (sp11 os ws k .no .no w) g1 = .ok (.tuple [.int (os.length : Int), .int (w.2.1 : Int), .int w.2.2.1, encQ w.2.2.2]) g1 := tup2 (cons2 (un2 (a := owD os) rfl len_owD) (ds := [.int (w.2.1 : Int), .int w.2.2.1, encQ w.2.2.2]) (g2 := g1) rfl) (by show 4 ≤ 1000; decide)
    exact (set_ok (share2 (ds := turnedL os w) (lst2 (cons2 q0 (ds := (turnedL os w).tail) (g2 := g1) rfl) (by show 11 ≤ 1000; decide)))).trans rfl
  · exact ret_ok (op2 (a := .list OL) rfl e8 (L2.atI_nat (List.getElem?_eq_getElem (by omega))))
end
end K

set_option Elab.async false
set_option linter.all false
set_option maxRecDepth 100000
set_option maxHeartbeats 400000
namespace K
open PySem DL PyProof.Rows
/-! ### what is refused -/
section
variable {os : List Int} {ws : List W4} {p : List (Option Nat)}
abbrev word (n : Nat) : PyData := strD (if n = 1 then "argument" else "program")
theorem sEq (a b : String) : eqD (strD a) (strD b) = some (.bool (decide (PySem.Str.ofString a = PySem.Str.ofString b))) := by
  simp [eqD]
theorem err_choice {L P a b : PyData} {n : Nat} {g : DL.G} (hn : n = 0 ∨ n = 1) (h : m_is_choice [L, P] g = .ex n g) : m_law_error [strD "choice", L, P, a, b] g = .ok (word n) g := by
  have e : eqD (strD "choice") (strD "choice") = some (.bool true) := by simp [eqD]
  simp only [strD] at e ⊢
  rcases hn with rfl | rfl <;> simp [m_law_error, b_law_error, e, h, pickH]
theorem err_first {L P a b : PyData} {n : Nat} {g : DL.G} (hn : n = 0 ∨ n = 1) (h : m_first_ways_chance [L, P, a, b] g = .ex n g) : m_law_error [strD "first", L, P, a, b] g = .ok (word n) g := by
  have e1 : eqD (strD "first") (strD "choice") = some (.bool false) := rfl
  have e : eqD (strD "first") (strD "first") = some (.bool true) := by simp [eqD]
  simp only [strD] at e e1 ⊢
  rcases hn with rfl | rfl <;> simp [m_law_error, b_law_error, e, e1, h, pickH]
theorem err_steps {L P a b : PyData} {n : Nat} {g : DL.G} (hn : n = 0 ∨ n = 1) (h : m_steps_at [L, P, a, b] g = .ex n g) : m_law_error [strD "steps", L, P, a, b] g = .ok (word n) g := by
  have e1 : eqD (strD "steps") (strD "choice") = some (.bool false) := rfl
  have e2 : eqD (strD "steps") (strD "first") = some (.bool false) := rfl
  have e : eqD (strD "steps") (strD "steps") = some (.bool true) := by simp [eqD]
  simp only [strD] at e e1 e2 ⊢
  rcases hn with rfl | rfl <;> simp [m_law_error, b_law_error, e, e1, e2, h, pickH]
theorem err_amount {L P a b : PyData} {n : Nat} {g : DL.G} (hn : n = 0 ∨ n = 1) (h : m_amount_at [L, P, a, b] g = .ex n g) : m_law_error [strD "amount", L, P, a, b] g = .ok (word n) g := by
  have e1 : eqD (strD "amount") (strD "choice") = some (.bool false) := rfl
  have e2 : eqD (strD "amount") (strD "first") = some (.bool false) := rfl
  have e3 : eqD (strD "amount") (strD "steps") = some (.bool false) := rfl
  have e : eqD (strD "amount") (strD "amount") = some (.bool true) := by simp [eqD]
  simp only [strD] at e e1 e2 e3 ⊢
  rcases hn with rfl | rfl <;> simp [m_law_error, b_law_error, e, e1, e2, e3, h, pickH]
theorem err_chances {L P a b : PyData} {n : Nat} {g : DL.G} (hn : n = 0 ∨ n = 1) (h : m_chances_by [L, P, a] g = .ex n g) : m_law_error [strD "chances", L, P, a, b] g = .ok (word n) g := by
  have e1 : eqD (strD "chances") (strD "choice") = some (.bool false) := rfl
  have e2 : eqD (strD "chances") (strD "first") = some (.bool false) := rfl
  have e3 : eqD (strD "chances") (strD "steps") = some (.bool false) := rfl
  have e4 : eqD (strD "chances") (strD "amount") = some (.bool false) := rfl
  simp only [strD] at e1 e2 e3 e4 ⊢
  rcases hn with rfl | rfl <;> simp [m_law_error, b_law_error, e1, e2, e3, e4, h, pickH]
abbrev four : List String := ["first", "steps", "amount", "chances"]
/-- no choice: all four -/
theorem all_ex {L P a b : PyData} {n : Nat} {g : DL.G} (hn : n = 0 ∨ n = 1) (h : m_check_choice [L, P] g = .ex n g) : ∀ s ∈ four, m_law_error [strD s, L, P, a, b] g = .ok (word n) g := by
  intro s hs
  simp only [List.mem_cons, List.not_mem_nil, or_false] at hs
  rcases hs with rfl | rfl | rfl | rfl
  · exact err_first hn (by simp [m_first_ways_chance, b_first_ways_chance, h])
  · exact err_steps hn (by simp [m_steps_at, b_steps_at, h])
  · exact err_amount hn (by simp [m_amount_at, b_amount_at, h])
  · exact err_chances hn (by simp [m_chances_by, b_chances_by, h])
/-- no room: all four -/
theorem all_room {L P a b : PyData} {g : DL.G} (h : m_check_choice [L, P] g = .ok .none g) (h1 : m_check_room [L, a] g = .ex 1 g) (h2 : m_check_goals [L, a] g = .ex 1 g) : ∀ s ∈ four, m_law_error [strD s, L, P, a, b] g = .ok (word 1) g := by
  intro s hs
  simp only [List.mem_cons, List.not_mem_nil, or_false] at hs
  rcases hs with rfl | rfl | rfl | rfl
  · exact err_first (.inr rfl) (by simp [m_first_ways_chance, b_first_ways_chance, h, h1])
  · exact err_steps (.inr rfl) (by simp [m_steps_at, b_steps_at, h, h1])
  · exact err_amount (.inr rfl) (by simp [m_amount_at, b_amount_at, h, h1])
  · exact err_chances (.inr rfl) (by simp [m_chances_by, b_chances_by, h, h2])
theorem bad_choice {d P : PyData} {g : DL.G} (h : m_is_lottery [d] g = .ok (.bool false) g) : m_is_choice [d, P] g = .ex 0 g ∧ m_check_choice [d, P] g = .ex 0 g := by
  have c := checkLottery_bad h
  exact ⟨by simp [m_is_choice, b_is_choice, c], by simp [m_check_choice, b_check_choice, c]⟩
theorem odd_room (g : DL.G) : ∀ a ∈ ([.int (os.length : Int), .int (-1), .bool true, .none] : List PyData), m_check_room [encL os ws, a] g = .ex 1 g ∧ m_check_goals [encL os ws, a] g = .ex 1 g := by
  intro a ha
  have hw : m_is_within [a, .int 0, .int ((os.length : Int) - 1)] g = .ok (.bool false) g := by
    simp only [List.mem_cons, List.not_mem_nil, or_false] at ha
    rcases ha with rfl | rfl | rfl | rfl
    · rw [within_dec, decide_eq_false (by omega)]
    · rw [within_dec, decide_eq_false (by omega)]
    · exact within_bool _ _ _ _
    · exact within_non _ _ _
  have ht : isT "tuple" a = false := by
    simp only [List.mem_cons, List.not_mem_nil, or_false] at ha
    rcases ha with rfl | rfl | rfl | rfl <;> rfl
  have hl := len_owD (os := os)
  unfold encL
  generalize owD os = O at hl ⊢
  exact ⟨by simp only [m_check_room, b_check_room, fnD]; simp [hl, hw, -lenD], by simp [m_check_goals, b_check_goals, ht]⟩
theorem bad_number (g : DL.G) : ∀ a ∈ ([.int (-1), .int 41, .bool true, .none] : List PyData), m_check_steps [a] g = .ex 1 g := by
  intro a ha
  have hw : m_is_within [a, .int 0, .int 40] g = .ok (.bool false) g := by
    simp only [List.mem_cons, List.not_mem_nil, or_false] at ha
    rcases ha with rfl | rfl | rfl | rfl
    · rw [within_dec, decide_eq_false (by omega)]
    · rw [within_dec, decide_eq_false (by omega)]
    · exact within_bool _ _ _ _
    · exact within_non _ _ _
  simp [m_check_steps, b_check_steps, hw]
theorem num_steps (V : Vl os ws) (hp : Plan os ws p) {a : PyData} {g : DL.G} (h : m_check_steps [a] g = .ex 1 g) : m_law_error [strD "steps", encL os ws, plD p, .int 0, a] g = .ok (word 1) g ∧ m_law_error [strD "amount", encL os ws, plD p, .int 0, a] g = .ok (word 1) g := by
  have c := checkChoice_ok V hp g
  have r := checkRoom_ok (os := os) (ws := ws) (r := 0) (by have := V.n1; omega) g
  rw [show ((0 : Nat) : Int) = 0 from rfl] at r
  generalize encL os ws = L at c r ⊢
  generalize plD p = P at c ⊢
  exact ⟨err_steps (.inr rfl) (by simp [m_steps_at, b_steps_at, c, r, h]), err_amount (.inr rfl) (by simp [m_amount_at, b_amount_at, c, r, h])⟩
end
end K

set_option Elab.async false
set_option linter.all false
set_option maxRecDepth 100000
set_option maxHeartbeats 400000
namespace K
open PySem DL PyProof.Rows
section
variable {os : List Int} {ws : List W4} {p : List (Option Nat)}
theorem comp_one {i : Nat} {cond : Te} {x : PyData} {ρ : Nv} {g : DL.G} (hi : i < ρ.length) (h : cond (ρ.set i (.sh x)) g = .ok true g) : compD (nameT i) cond (varD i) [x] ρ g = .ok [x] g :=
  compD_pure (t := nameT i) (cond := cond) (elt := varD i) id (fun _ => true) id [x] ρ g fun y hy => ⟨_, rfl, by rw [List.mem_singleton.mp hy]; exact h, fun _ => vv (List.getElem?_set_self hi)⟩
theorem lc_truth {fi : Ar} {own : List Nat} {tg : Tg} {cond : Te} {elt : Ex} {ds xs : List PyData} {ρ : Nv} {g g1 g2 : DL.G} (h : fi ρ g = .ok ds g1) (hl : ds.length ≤ 1000000) (k : compD tg cond elt ds (wipeD ρ own) g1 = .ok xs g2) : truthD (shareO (lcO fi own tg cond elt)) ρ g = .ok (!xs.isEmpty) g2 := by
  have := share2 (lc_ok (own := own) h hl k)
  unfold truthD
  rw [this]
  rfl
theorem seq_ex {a b : Sm} {ρ ρ1 : Nv} {g g1 : DL.G} {n : Nat} (h : a ρ g = .ex n ρ1 g1) : seqS a b ρ g = .ex n ρ1 g1 := by unfold seqS; rw [h]
theorem fn_ex {k n : Nat} {b : Sm} {ds : List PyData} {ρ1 : Nv} {g g1 : DL.G} (h : b (ds.map Sl.sh ++ List.replicate k .no) g = .ex n ρ1 g1) : fnD k false b ds g = .ex n g1 := by
  unfold fnD
  rw [if_neg (by decide), h]
theorem drop_ok {e : Ex} {d : PyData} {ρ : Nv} {g g1 : DL.G} (h : e ρ g = .ok d g1) : dropS e ρ g = .nx ρ g1 := by
  rw [dropS_ap, h]
theorem len_wyD : lenD (wyD ws) = some (.int (ws.length : Int)) := by
  show some (PyData.int (((ws.map encW4).length : Nat) : Int)) = _
  rw [List.length_map]
abbrev placesL (ws : List W4) : List PyData := [.none, .tuple [.int 0], .list [.int (ws.length : Int)], .list [.bool true], .list (List.replicate 61 (.int 0))]
theorem bad_places (V : Vl os ws) (hp : Plan os ws p) (g : DL.G) : ∀ a ∈ placesL ws, m_law_error [strD "first", encL os ws, plD p, .int 0, a] g = .ok (word 1) g := by
  have c := checkChoice_ok V hp g
  have r := checkRoom_ok (os := os) (ws := ws) (r := 0) (by have := V.n1; omega) g
  rw [show ((0 : Nat) : Int) = 0 from rfl] at r
  have hl := len_wyD (ws := ws)
  have w1 : m_is_within [.int (ws.length : Int), .int 0, .int ((ws.length : Int) - 1)] g = .ok (.bool false) g := by rw [within_dec, decide_eq_false (by omega)]
  have w2 := within_bool true 0 ((ws.length : Int) - 1) g
  intro a ha
  refine err_first (.inr rfl) ?_
  simp only [List.mem_cons, List.not_mem_nil, or_false] at ha
  unfold encL at c r ⊢
  generalize owD os = O at c r ⊢
  generalize wyD ws = W at c r hl ⊢
  generalize plD p = P at c ⊢
  have go : ∀ x : PyData, m_is_within [x, .int 0, .int ((ws.length : Int) - 1)] g = .ok (.bool false) g → m_first_ways_chance [.tuple [O, W], P, .int 0, .list [x]] g = .ex 1 g := fun x hx => by
    unfold m_first_ways_chance
    refine fn_ex (ρ1 := [.sh (.tuple [O, W]), .sh P, .sh (.int 0), .sh (.list [x]), .no, .no, .no, .no, .no, .no]) ?_
    show b_first_ways_chance [.sh (.tuple [O, W]), .sh P, .sh (.int 0), .sh (.list [x]), .no, .no, .no, .no, .no, .no] g = _
    unfold b_first_ways_chance
    refine (seq_eq (drop_ok (call_ok (ds := [.tuple [O, W], P]) rfl rfl c))).trans ((seq_eq (drop_ok (call_ok (ds := [.tuple [O, W], .int 0]) rfl rfl r))).trans ((seq_eq (ρ1 := [.sh (.tuple [O, W]), .sh P, .sh (.int 0), .sh (.list [x]), .no, .no, .no, .no, .no, .no]) (g1 := g) rfl).trans (seq_ex ?_)))
    have cm := comp_one (i := 5) (cond := notT (truthD (callD 3 m_is_within (consD (varD 5) (consD (constD (.int 0)) (consD (opD subD (unD lenD (opD ixD (varD 0) (constD (.int 1)))) (constD (.int 1))) nilD)))))) (x := x) (ρ := [.sh (.tuple [O, W]), .sh P, .sh (.int 0), .sh (.list [x]), .no, .no, .no, .no, .no, .no]) (g := g) (by show 5 < 10; decide)
      (not_call (ds := [x, .int 0, .int ((ws.length : Int) - 1)]) (cons2 (g1 := g) rfl (cons2 (g1 := g) rfl (cons2 (op2 (o := subD) (b := .int 1) (un2 (o := lenD) (op2 (o := ixD) (a := .tuple [O, W]) (b := .int 1) rfl rfl (ix1 _ _ _)) hl) rfl (subI _ _)) (es := nilD) (ds := []) rfl))) rfl hx)
    exact (if_yes (lc_truth (own := [5]) (xs := [x]) (g1 := g) (ds := [x]) rfl (by show 1 ≤ 1000000; decide) cm)).trans rfl
  rcases ha with rfl | rfl | rfl | rfl | rfl
  · simp [m_first_ways_chance, b_first_ways_chance, c, r, isT]
  · simp [m_first_ways_chance, b_first_ways_chance, c, r, isT]
  · exact go _ w1
  · exact go _ w2
  · simp [m_first_ways_chance, b_first_ways_chance, c, r, isT]
abbrev goalsL (os : List Int) : List PyData := [.none, .list [.int 0], .tuple [.int (os.length : Int)], .tuple [.int 0, .int 0], .tuple [.bool true]]
theorem bad_goals (V : Vl os ws) (hp : Plan os ws p) (g : DL.G) : ∀ a ∈ goalsL os, m_law_error [strD "chances", encL os ws, plD p, a, .none] g = .ok (word 1) g := by
  have c := checkChoice_ok V hp g
  have hl := len_owD (os := os)
  have n1 := V.n1
  have w1 : m_is_within [.int (os.length : Int), .int 0, .int ((os.length : Int) - 1)] g = .ok (.bool false) g := by rw [within_dec, decide_eq_false (by omega)]
  have w2 := within_bool true 0 ((os.length : Int) - 1) g
  have w3 : m_is_within [.int 0, .int 0, .int ((os.length : Int) - 1)] g = .ok (.bool true) g := by rw [within_dec, decide_eq_true (by omega)]
  intro a ha
  refine err_chances (.inr rfl) ?_
  simp only [List.mem_cons, List.not_mem_nil, or_false] at ha
  unfold encL at c ⊢
  generalize owD os = O at c hl ⊢
  generalize wyD ws = W at c ⊢
  generalize plD p = P at c ⊢
  have key : m_check_goals [.tuple [O, W], a] g = .ex 1 g := by
    have hw : ∀ x : PyData, ∀ b, m_is_within [x, .int 0, .int ((os.length : Int) - 1)] g = .ok (.bool b) g → ∀ ρ : Nv, ρ[0]? = some (.sh (.tuple [O, W])) → ρ[3]? = some (.sh x) → notT (truthD (callD 3 m_is_within (consD (varD 3) (consD (constD (.int 0)) (consD (opD subD (unD lenD (opD ixD (varD 0) (constD (.int 0)))) (constD (.int 1))) nilD))))) ρ g = .ok (!b) g := fun x b hx ρ h0 h3 =>
      not_call (ds := [x, .int 0, .int ((os.length : Int) - 1)]) (cons2 (g1 := g) (vv h3) (cons2 (g1 := g) rfl (cons2 (op2 (o := subD) (b := .int 1) (un2 (o := lenD) (op2 (o := ixD) (a := .tuple [O, W]) (b := .int 0) (vv h0) rfl (ix0 _ _)) hl) rfl (subI _ _)) (es := nilD) (ds := []) rfl))) rfl hx
    have go : ∀ x : PyData, m_is_within [x, .int 0, .int ((os.length : Int) - 1)] g = .ok (.bool false) g → m_check_goals [.tuple [O, W], .tuple [x]] g = .ex 1 g := fun x hx => by
      unfold m_check_goals
      refine fn_ex (ρ1 := [.sh (.tuple [O, W]), .sh (.tuple [x]), .no, .no]) ?_
      show b_check_goals [.sh (.tuple [O, W]), .sh (.tuple [x]), .no, .no] g = _
      unfold b_check_goals
      refine seq_ex ?_
      have cm := comp_one (i := 3) (x := x) (ρ := [.sh (.tuple [O, W]), .sh (.tuple [x]), .no, .no]) (g := g) (by show 3 < 4; decide) (hw x false hx _ rfl rfl)
      exact (if_yes ((orT_no (g1 := g) rfl).trans (lc_truth (own := [3]) (xs := [x]) (g1 := g) (ds := [x]) rfl (by show 1 ≤ 1000000; decide) cm))).trans rfl
    rcases ha with rfl | rfl | rfl | rfl | rfl
    · simp [m_check_goals, b_check_goals, isT]
    · simp [m_check_goals, b_check_goals, isT]
    · exact go _ w1
    · unfold m_check_goals
      refine fn_ex (ρ1 := [.sh (.tuple [O, W]), .sh (.tuple [.int 0, .int 0]), .no, .no]) ?_
      show b_check_goals [.sh (.tuple [O, W]), .sh (.tuple [.int 0, .int 0]), .no, .no] g = _
      unfold b_check_goals
      have cm := comp_none (i := 3) (cond := notT (truthD (callD 3 m_is_within (consD (varD 3) (consD (constD (.int 0)) (consD (opD subD (unD lenD (opD ixD (varD 0) (constD (.int 0)))) (constD (.int 1))) nilD)))))) PyData.int [0, 0] [.sh (.tuple [O, W]), .sh (.tuple [.int 0, .int 0]), .no, .no] g fun x hx => by
        obtain rfl : x = 0 := by simpa using hx
        exact hw _ true w3 _ rfl rfl
      refine (seq_eq (ρ1 := [.sh (.tuple [O, W]), .sh (.tuple [.int 0, .int 0]), .no, .no]) (g1 := g) ((if_no ((orT_no (g1 := g) rfl).trans (lc_truth (own := [3]) (xs := []) (g1 := g) (ds := [.int 0, .int 0]) rfl (by decide) cm))).trans rfl)).trans ?_
      have c2 := comp_one (i := 2) (cond := boolD (opD (cmpD fun i j => decide (j ≤ i)) (opD ixD (varD 1) (opD subD (varD 2) (constD (.int 1)))) (opD ixD (varD 1) (varD 2)))) (x := .int 1) (ρ := [.sh (.tuple [O, W]), .sh (.tuple [.int 0, .int 0]), .no, .no]) (g := g) (by show 2 < 4; decide) rfl
      exact (if_yes (lc_truth (own := [2]) (xs := [.int 1]) (g1 := g) (ds := [.int 1]) rfl (by show 1 ≤ 1000000; decide) c2)).trans rfl
    · exact go _ w2
  simp [m_chances_by, b_chances_by, c, key]
end
end K

set_option Elab.async false
set_option linter.all false
set_option maxRecDepth 100000
set_option maxHeartbeats 400000
namespace K
open PySem DL PyProof.Rows
/-! ### the law -/
section
variable {os : List Int} {ws : List W4} {p : List (Option Nat)}
theorem okC_false {v : List Bv} {x : Bv} (V : Vl os ws) (h0 : v[0]?.getD none = x) (h1 : x ≠ none) (h2 : ∀ k : Nat, k < ws.length → x ≠ some (.inr (k : Int))) : okC os ws v = false := by
  have n1 := V.n1
  cases e : okC os ws v with
  | false => rfl
  | true =>
    exfalso
    unfold okC at e
    rw [Bool.and_eq_true, decide_eq_true_iff, List.all_eq_true] at e
    have g0 := of_decide_eq_true (e.2 0 (List.mem_range.mpr (by omega)))
    obtain ⟨k, hk, e2⟩ := g0
    rw [h0] at e2
    unfold optsC at hk
    split at hk
    · rw [List.mem_singleton.mp hk] at e2
      exact h1 e2.symm
    · obtain ⟨j, hj, rfl⟩ := List.mem_map.mp hk
      obtain ⟨w, w1, _⟩ := chs_mem.mp hj
      exact h2 j (List.getElem?_eq_some_iff.mp w1).1 e2.symm
abbrev strangeL (os : List Int) (ws : List W4) (p : List (Option Nat)) : List PyData := [.none, .tuple (p.map encK ++ [.int 0]), .list (p.map encK), .tuple (List.replicate os.length (.int (ws.length : Int))), .tuple (List.replicate os.length (.bool true)), .tuple (List.replicate os.length (.int (-1)))]
theorem strange_bad (V : Vl os ws) (hp : Plan os ws p) (g : DL.G) : ∀ d ∈ strangeL os ws p, m_is_choice_of [encL os ws, d] g = .ok (.bool false) g := by
  have n1 := V.n1
  have n2 := V.n2
  have rep : ∀ (x : Bv), x ≠ none → (∀ k : Nat, k < ws.length → x ≠ some (.inr (k : Int))) → m_is_choice_of [encL os ws, .tuple (List.replicate os.length (encB x))] g = .ok (.bool false) g := fun x h1 h2 => by
    have := isChoiceOf_any (os := os) (ws := ws) n2 (List.replicate os.length x) g
    rw [List.map_replicate, okC_false V (x := x) (by rw [List.getElem?_replicate, if_pos (by omega)]; rfl) h1 h2] at this
    exact this
  intro d hd
  simp only [List.mem_cons, List.not_mem_nil, or_false] at hd
  rcases hd with rfl | rfl | rfl | rfl | rfl | rfl
  · exact isChoiceOf_not os ws g rfl
  · have := isChoiceOf_any (os := os) (ws := ws) n2 (p.map toB ++ [some (.inr 0)]) g
    rw [List.map_append, map_toB] at this
    have e : okC os ws (p.map toB ++ [some (.inr 0)]) = false := by
      unfold okC
      rw [decide_eq_false (by rw [List.length_append, List.length_map, hp.l]; show ¬ (os.length + 1 = os.length); omega)]
      rfl
    rw [e] at this
    exact this
  · exact isChoiceOf_not os ws g rfl
  · exact rep (some (.inr (ws.length : Int))) (fun z => nomatch z) (fun k hk z => by injection z with z; injection z with z; omega)
  · exact rep (some (.inl true)) (fun z => nomatch z) (fun k hk z => by injection z with z; cases z)
  · exact rep (some (.inr (-1))) (fun z => nomatch z) (fun k hk z => by injection z with z; injection z with z; omega)
theorem eq_no {e1 e2 : Ex} {d : PyData} {ρ : Nv} {g : DL.G} (h1 : e1 ρ g = .ok d g) (h2 : e2 ρ g = .ok d g) (hN : Nar 7 d) : notT (truthD (callD 2 m_law_equal (consD e1 (consD e2 nilD)))) ρ g = .ok false g :=
  not_call (ds := [d, d]) (b := true) (cons2 h1 (cons2 h2 (es := nilD) (ds := []) rfl)) rfl (equal_refl g hN)
theorem skip {c : Te} {s : Sm} {ρ : Nv} {g : DL.G} (h : c ρ g = .ok false g) : ifS c s nextS ρ g = .nx ρ g := (if_no h).trans rfl
theorem names_run {E : Ex} {wd : String} {ρ : Nv} {g : DL.G} (hl : 4 < ρ.length) : ∀ (ss : List String), (∀ s ∈ ss, E (ρ.set 4 (.sh (strD s))) g = .ok (strD wd) g) → ∀ z, ∃ z', forD (nameT 4) (ifS (boolD (opD neD E (constD (strD wd)))) (retS (constD (.bool false))) nextS) (ss.map strD) (ρ.set 4 z) g = .nx (ρ.set 4 z') g
  | [], _, z => ⟨z, rfl⟩
  | s :: ss, h, z => by
    obtain ⟨z', h'⟩ := names_run hl ss (fun t ht => h t (List.mem_cons_of_mem _ ht)) (.sh (strD s))
    refine ⟨z', ?_⟩
    rw [List.map_cons]
    unfold forD
    have n : nameT 4 (strD s) (ρ.set 4 z) = some (ρ.set 4 (.sh (strD s))) := by
      show some ((ρ.set 4 z).set 4 (.sh (strD s))) = _
      rw [List.set_set]
    rw [n]
    have hb : boolD (opD neD E (constD (strD wd))) (ρ.set 4 (.sh (strD s))) g = .ok false g := by
      have e := h s List.mem_cons_self
      have en : neD (strD wd) (strD wd) = some (.bool false) := by simp [neD, eqD]
      generalize strD wd = W at e en ⊢
      generalize neD = M at en ⊢
      simp [e, en]
    simp only [skip hb]
    exact h'
theorem names_for {E : Ex} {wd : String} {ss : List String} {fi : Ar} {ρ : Nv} {g : DL.G} {z : Sl} (hl : 4 < ρ.length) (h4 : ρ[4]? = some z) (hf : fi ρ g = .ok (ss.map strD) g) (h : ∀ s ∈ ss, E (ρ.set 4 (.sh (strD s))) g = .ok (strD wd) g) :
    ∃ z', forS fi (nameT 4) (ifS (boolD (opD neD E (constD (strD wd)))) (retS (constD (.bool false))) nextS) ρ g = .nx (ρ.set 4 z') g := by
  obtain ⟨z', h'⟩ := names_run hl ss h z
  have e : ρ.set 4 z = ρ := by
    obtain ⟨h1, h2⟩ := List.getElem?_eq_some_iff.mp h4
    rw [← h2]
    exact List.set_getElem_self h1
  rw [e] at h'
  exact ⟨z', for_run hf h'⟩
theorem nar_Q (q : Rat) (n : Nat) : Nar (n + 1) (encQ q) := by
  refine ⟨by show 2 ≤ 1000000; decide, fun d hd => ?_⟩
  simp only [List.mem_cons, List.not_mem_nil, or_false] at hd
  rcases hd with rfl | rfl <;> cases n <;> trivial
theorem nar_v {v : List Rat} (hl : v.length ≤ 1000) : Nar 7 (vD v) := by
  refine ⟨by rw [List.length_map]; omega, fun d hd => ?_⟩
  obtain ⟨q, _, rfl⟩ := List.mem_map.mp hd
  exact nar_Q q 5
end
end K

set_option Elab.async false
set_option linter.all false
set_option maxRecDepth 100000
set_option maxHeartbeats 400000
namespace K
open PySem DL PyProof.Rows
section
noncomputable abbrev turnL4 : Sm := (seqS (setS 7 (callG 2 1 m_law_lottery (consD (constD (.int 8)) nilD)))
  (seqS (setS 8 (callG 2 1 m_law_plan (consD (varD 7) nilD)))
  (seqS (setS 9 (unD lenD (opD ixD (varD 7) (constD (.int 0)))))
  (seqS (ifS (orT (notT (truthD (callD 2 m_law_equal (consD (callD 1 m_is_lottery (consD (varD 7) nilD)) (consD (constD (.bool true)) nilD))))) (notT (truthD (callD 2 m_law_equal (consD (callD 2 m_is_choice (consD (varD 7) (consD (varD 8) nilD))) (consD (constD (.bool true)) nilD))))))
  (retS (constD (.bool false)))
  nextS)
  (seqS (setS 10 (unD tupleD (shareO (lcO (itemsD (varD 8)) [13] (nameT 13) yesT (opD ixD (shareO (lstO (consD (varD 13) (consD (constD .none) (consD (opD modD (callG 1 1 m_law_draw nilD) (unD lenD (opD ixD (varD 7) (constD (.int 1))))) nilD))))) (opD modD (callG 1 1 m_law_draw nilD) (constD (.int 3))))))))
  (seqS (ifS (notT (truthD (callD 2 m_law_equal (consD (callD 2 m_is_choice (consD (varD 7) (consD (varD 10) nilD))) (consD (callD 2 m_law_is_plan (consD (varD 7) (consD (varD 10) nilD))) nilD)))))
  (retS (constD (.bool false)))
  nextS)
  (seqS (setS 11 (opD modD (callG 1 1 m_law_draw nilD) (varD 9)))
  (seqS (setS 12 (callG 4 1 m_law_walk (consD (varD 7) (consD (varD 8) (consD (varD 11) nilD)))))
  (seqS (ifS (notT (truthD (callD 2 m_law_equal (consD (callD 4 m_first_ways_chance (consD (varD 7) (consD (varD 8) (consD (varD 11) (consD (unD listD (varD 12)) nilD))))) (consD (callD 4 m_law_first (consD (varD 7) (consD (varD 8) (consD (varD 11) (consD (varD 12) nilD))))) nilD)))))
  (retS (constD (.bool false)))
  nextS)
  (seqS (setS 13 (opD modD (callG 1 1 m_law_draw nilD) (opD ixD (shareO (lstO (consD (constD (.int 4)) (consD (constD (.int 41)) nilD)))) (opD modD (callG 1 1 m_law_draw nilD) (constD (.int 2))))))
  (seqS (asgS (callD 3 m_law_spread (consD (callD 2 m_law_steps (consD (varD 7) (consD (varD 8) nilD))) (consD (varD 11) (consD (varD 13) nilD)))) (tupT (consT (nameT 15) (consT (nameT 16) nilT))))
  (seqS (ifS (orT (notT (truthD (callD 2 m_law_equal (consD (callD 4 m_steps_at (consD (varD 7) (consD (varD 8) (consD (varD 11) (consD (varD 13) nilD))))) (consD (varD 15) nilD))))) (notT (truthD (callD 2 m_law_equal (consD (callD 4 m_amount_at (consD (varD 7) (consD (varD 8) (consD (varD 11) (consD (varD 13) nilD))))) (consD (varD 16) nilD))))))
  (retS (constD (.bool false)))
  nextS)
  (seqS (setS 14 (opD ixD (shareO (lstO (consD (constD .none) (consD (opD addD (varD 8) (tupD (consD (constD (.int 0)) nilD))) (consD (unD listD (varD 8)) (consD (opD mulD (tupD (consD (unD lenD (opD ixD (varD 7) (constD (.int 1)))) nilD)) (varD 9)) (consD (opD mulD (tupD (consD (constD (.bool true)) nilD)) (varD 9)) (consD (opD mulD (tupD (consD (unD negD (constD (.int 1))) nilD)) (varD 9)) nilD)))))))) (opD modD (callG 1 1 m_law_draw nilD) (constD (.int 6)))))
  (seqS (ifS (notT (truthD (callD 2 m_law_equal (consD (callD 2 m_is_choice (consD (varD 7) (consD (varD 14) nilD))) (consD (constD (.bool false)) nilD)))))
  (retS (constD (.bool false)))
  nextS)
  (forS (itemsD (shareO (lstO (consD (constD (.str (PySem.Str.ofString "first"))) (consD (constD (.str (PySem.Str.ofString "steps"))) (consD (constD (.str (PySem.Str.ofString "amount"))) (consD (constD (.str (PySem.Str.ofString "chances"))) nilD))))))) (nameT 4)
  (ifS (boolD (opD neD (callD 5 m_law_error (consD (varD 4) (consD (varD 7) (consD (varD 14) (consD (constD (.int 0)) (consD (constD (.int 0)) nilD)))))) (constD (.str (PySem.Str.ofString "argument")))))
  (retS (constD (.bool false)))
  nextS))))))))))))))))
abbrev T17 (t b nm od nu L P n o r pl k st he wh : Sl) : Nv := [.no, .dr, t, b, nm, od, nu, L, P, n, o, r, pl, k, st, he, wh]
/-- another choice, as it is drawn -/
theorem other_ok {ms : List Int} {ws : List W4} {os : List Int} {p : List (Option Nat)} (V : Vl os ws) (hp : Plan os ws p) {ρ : Nv} (h1 : ρ[1]? = some .dr) (h7 : ρ[7]? = some (.sh (encL os ws))) (h8 : ρ[8]? = some (.sh (plD p))) (hl : ρ.length = 17) {g : DL.G} (hg : Dr ms g) : ∃ (q : List (Option Nat)) (g' : DL.G), q.length = os.length ∧ (∀ k, some k ∈ q → k < ws.length) ∧ Dr ms g' ∧
    unD tupleD (shareO (lcO (itemsD (varD 8)) [13] (nameT 13) yesT (opD ixD (shareO (lstO (consD (varD 13) (consD (constD .none) (consD (opD modD (callG 1 1 m_law_draw nilD) (unD lenD (opD ixD (varD 7) (constD (.int 1))))) nilD))))) (opD modD (callG 1 1 m_law_draw nilD) (constD (.int 3)))))) ρ g = .ok (plD q) g' := by
  have l1 := V.l1
  have n2 := V.n2
  have hpl := hp.l
  obtain ⟨_, g2, h3, hg2, q, rfl, ql, qv⟩ := compD_all (t := nameT 13) (cond := yesT) (elt := opD ixD (shareO (lstO (consD (varD 13) (consD (constD .none) (consD (opD modD (callG 1 1 m_law_draw nilD) (unD lenD (opD ixD (varD 7) (constD (.int 1))))) nilD))))) (opD modD (callG 1 1 m_law_draw nilD) (constD (.int 3)))) encK
    (fun pre ys g => Dr ms g ∧ ∃ q : List (Option Nat), ys = q.map encK ∧ q.length = pre.length ∧ ∀ k, some k ∈ q → k < ws.length) p (wipeD ρ [13]) (by
      rintro pre x post e ys g ⟨hg, q, rfl, ql, qv⟩
      have w1 : ((wipeD ρ [13]).set 13 (.sh (encK x)))[1]? = some .dr := by
        show ((ρ.set 13 .no).set 13 (.sh (encK x)))[1]? = _
        rw [List.getElem?_set_ne (by decide), List.getElem?_set_ne (by decide)]; exact h1
      have w7 : ((wipeD ρ [13]).set 13 (.sh (encK x)))[7]? = some (.sh (encL os ws)) := by
        show ((ρ.set 13 .no).set 13 (.sh (encK x)))[7]? = _
        rw [List.getElem?_set_ne (by decide), List.getElem?_set_ne (by decide)]; exact h7
      have w13 : ((wipeD ρ [13]).set 13 (.sh (encK x)))[13]? = some (.sh (encK x)) := by
        show ((ρ.set 13 .no).set 13 (.sh (encK x)))[13]? = _
        exact List.getElem?_set_self (by rw [List.length_set]; omega)
      have tt : nameT 13 (encK x) (wipeD ρ [13]) = some ((wipeD ρ [13]).set 13 (.sh (encK x))) := rfl
      generalize (wipeD ρ [13]).set 13 (.sh (encK x)) = ρ1 at w1 w7 w13 tt
      obtain ⟨a, ga, ha, hga, ea⟩ := drawE hg (ρ := ρ1) (i := 1) w1 (e := unD lenD (opD ixD (varD 7) (constD (.int 1)))) (m := ws.length) (by omega) (fun g' => un2 (ix_wys ρ1 (i := 7) g' w7) len_wyD)
      obtain ⟨c, gc, hc, hgc, ec⟩ := drawE hga (ρ := ρ1) (i := 1) w1 (e := constD (.int 3)) (m := 3) (by decide) (fun g' => rfl)
      have el := share2 (lst2 (cons2 (vv w13 (g := g)) (cons2 (e := constD .none) (d := .none) (g1 := g) rfl (cons2 ea (es := nilD) (ds := []) rfl))) (by show 3 ≤ 1000; decide))
      have done : ∀ y : Option Nat, (∀ k, y = some k → k < ws.length) → opD ixD (shareO (lstO (consD (varD 13) (consD (constD .none) (consD (opD modD (callG 1 1 m_law_draw nilD) (unD lenD (opD ixD (varD 7) (constD (.int 1))))) nilD))))) (opD modD (callG 1 1 m_law_draw nilD) (constD (.int 3))) ρ1 g = .ok (encK y) gc →
          ∃ ρ1 g1, nameT 13 (encK x) (wipeD ρ [13]) = some ρ1 ∧ ((yesT ρ1 g = .ok false g1 ∧ (Dr ms g1 ∧ ∃ q' : List (Option Nat), q.map encK = q'.map encK ∧ q'.length = (pre ++ [x]).length ∧ ∀ k, some k ∈ q' → k < ws.length)) ∨ (yesT ρ1 g = .ok true g1 ∧ ∃ y g2, (opD ixD (shareO (lstO (consD (varD 13) (consD (constD .none) (consD (opD modD (callG 1 1 m_law_draw nilD) (unD lenD (opD ixD (varD 7) (constD (.int 1))))) nilD))))) (opD modD (callG 1 1 m_law_draw nilD) (constD (.int 3)))) ρ1 g1 = .ok y g2 ∧ (Dr ms g2 ∧ ∃ q' : List (Option Nat), q.map encK ++ [y] = q'.map encK ∧ q'.length = (pre ++ [x]).length ∧ ∀ k, some k ∈ q' → k < ws.length))) := fun y hy h =>
        ⟨ρ1, g, tt, .inr ⟨rfl, encK y, gc, h, hgc, q ++ [y], by rw [List.map_append]; rfl, by simp [ql], fun k hk => by
          rcases List.mem_append.mp hk with z | z
          · exact qv k z
          · exact hy k (List.mem_singleton.mp z).symm⟩⟩
      rcases (by omega : c = 0 ∨ c = 1 ∨ c = 2) with rfl | rfl | rfl
      · refine done x (fun k hk => ?_) (op2 el ec (L2.atI_nat (j := 0) rfl))
        subst hk
        exact hp.lt k (by rw [e]; simp)
      · exact done none (fun k hk => nomatch hk) (op2 el ec (L2.atI_nat (j := 1) rfl))
      · exact done (some a) (fun k hk => by injection hk with hk; omega) (op2 el ec (L2.atI_nat (j := 2) rfl))) (g := g) ⟨hg, [], rfl, rfl, fun _ h => nomatch h⟩
  refine ⟨q, g2, by rw [ql, hpl], qv, hg2, un2 (o := tupleD) (share2 (lc_ok (own := [13]) (g1 := g) (items_tup (vv h8)) (by rw [List.length_map]; omega) h3)) rfl⟩
theorem plB (q : List (Option Nat)) : plD q = .tuple ((q.map toB).map encB) := by rw [map_toB]
theorem turnL_ok {ms : List Int} {g : DL.G} (hg : Dr ms g) (t b nm od nu L P n o r pl k st he wh : Sl) : ∃ (os : List Int) (ws : List W4) (p : List (Option Nat)) (g' : DL.G) (nm' o' r' pl' k' st' he' wh' : Sl), Vl os ws ∧ Plan os ws p ∧ Dr ms g' ∧
    turnL4 (T17 t b nm od nu L P n o r pl k st he wh) g = .nx (T17 t b nm' od nu (.sh (encL os ws)) (.sh (plD p)) (.sh (.int (os.length : Int))) o' r' pl' k' st' he' wh') g' := by
  obtain ⟨os, ws, g1, V, hg1, e1⟩ := lottery_ok hg
  obtain ⟨p, g2, hp, hg2, e2⟩ := plan_drawn V hg1
  have n1 := V.n1
  have n2 := V.n2
  have l1 := V.l1
  have hpl := hp.l
  have s1 : setS 7 (callG 2 1 m_law_lottery (consD (constD (.int 8)) nilD)) (T17 t b nm od nu L P n o r pl k st he wh) g = .nx (T17 t b nm od nu (.sh (encL os ws)) P n o r pl k st he wh) g1 := set_ok (by simp [e1])
  have s2 : setS 8 (callG 2 1 m_law_plan (consD (varD 7) nilD)) (T17 t b nm od nu (.sh (encL os ws)) P n o r pl k st he wh) g1 = .nx (T17 t b nm od nu (.sh (encL os ws)) (.sh (plD p)) n o r pl k st he wh) g2 := set_ok (by simp [e2])
  have s3 : setS 9 (unD lenD (opD ixD (varD 7) (constD (.int 0)))) (T17 t b nm od nu (.sh (encL os ws)) (.sh (plD p)) n o r pl k st he wh) g2 = .nx (T17 t b nm od nu (.sh (encL os ws)) (.sh (plD p)) (.sh (.int (os.length : Int))) o r pl k st he wh) g2 := set_ok (un2 (ix_own _ (i := 7) g2 rfl) len_owD)
  generalize hρ0 : T17 t b nm od nu (.sh (encL os ws)) (.sh (plD p)) (.sh (.int (os.length : Int))) o r pl k st he wh = ρ0
  have a7 : ρ0[7]? = some (.sh (encL os ws)) := by rw [← hρ0]; rfl
  have a8 : ρ0[8]? = some (.sh (plD p)) := by rw [← hρ0]; rfl
  have okc := isChoice_by V (d := plD p) (b := true) (g := g2) (by rw [plB, isChoiceOf_any n2, hp.ok])
  have s4 : ifS (orT (notT (truthD (callD 2 m_law_equal (consD (callD 1 m_is_lottery (consD (varD 7) nilD)) (consD (constD (.bool true)) nilD))))) (notT (truthD (callD 2 m_law_equal (consD (callD 2 m_is_choice (consD (varD 7) (consD (varD 8) nilD))) (consD (constD (.bool true)) nilD))))))
    (retS (constD (.bool false))) nextS ρ0 g2 = .nx ρ0 g2 := skip ((orT_no (eq_no (call_ok (ds := [encL os ws]) (cons2 (vv a7) (es := nilD) (ds := []) rfl) rfl (isLottery_ok V g2)) rfl trivial)).trans (eq_no (call_ok (ds := [encL os ws, plD p]) (cons2 (vv a7) (cons2 (vv a8) (es := nilD) (ds := []) rfl)) rfl okc) rfl trivial))
  obtain ⟨q, g3, ql, qv, hg3, e5⟩ := other_ok V hp (ρ := ρ0) (by rw [← hρ0]; rfl) a7 a8 (by rw [← hρ0]; rfl) hg2
  have s5 := set_ok (i := 10) e5
  rw [← hρ0] at s5
  replace s5 : _ = SR.nx (T17 t b nm od nu (.sh (encL os ws)) (.sh (plD p)) (.sh (.int (os.length : Int))) (.sh (plD q)) r pl k st he wh) g3 := s5
  rw [hρ0] at s5
  generalize hρ1 : T17 t b nm od nu (.sh (encL os ws)) (.sh (plD p)) (.sh (.int (os.length : Int))) (.sh (plD q)) r pl k st he wh = ρ1 at s5
  have b7 : ρ1[7]? = some (.sh (encL os ws)) := by rw [← hρ1]; rfl
  have b10 : ρ1[10]? = some (.sh (plD q)) := by rw [← hρ1]; rfl
  have okq := isChoice_by V (d := plD q) (b := okC os ws (q.map toB)) (g := g3) (by rw [plB, isChoiceOf_any n2])
  have okl := lawIsPlan_ok V ql qv g3
  have s6 : ifS (notT (truthD (callD 2 m_law_equal (consD (callD 2 m_is_choice (consD (varD 7) (consD (varD 10) nilD))) (consD (callD 2 m_law_is_plan (consD (varD 7) (consD (varD 10) nilD))) nilD)))))
    (retS (constD (.bool false))) nextS ρ1 g3 = .nx ρ1 g3 := skip (eq_no (call_ok (ds := [encL os ws, plD q]) (cons2 (vv b7) (cons2 (vv b10) (es := nilD) (ds := []) rfl)) rfl okq) (call_ok (ds := [encL os ws, plD q]) (cons2 (vv b7) (cons2 (vv b10) (es := nilD) (ds := []) rfl)) rfl okl) trivial)
  obtain ⟨room, g4, hr, hg4, e7⟩ := drawE hg3 (ρ := ρ1) (i := 1) (by rw [← hρ1]; rfl) (e := varD 9) (m := os.length) (by omega) (fun _ => by rw [← hρ1]; rfl)
  have s7 := set_ok (i := 11) e7
  rw [← hρ1] at s7
  replace s7 : _ = SR.nx (T17 t b nm od nu (.sh (encL os ws)) (.sh (plD p)) (.sh (.int (os.length : Int))) (.sh (plD q)) (.sh (.int (room : Int))) pl k st he wh) g4 := s7
  rw [hρ1] at s7
  obtain ⟨ks, g5, kk, kl, hg5, e8⟩ := walk_drawn V hp hg4 hr
  have s8 : setS 12 (callG 4 1 m_law_walk (consD (varD 7) (consD (varD 8) (consD (varD 11) nilD)))) (T17 t b nm od nu (.sh (encL os ws)) (.sh (plD p)) (.sh (.int (os.length : Int))) (.sh (plD q)) (.sh (.int (room : Int))) pl k st he wh) g4 = .nx (T17 t b nm od nu (.sh (encL os ws)) (.sh (plD p)) (.sh (.int (os.length : Int))) (.sh (plD q)) (.sh (.int (room : Int))) (.sh (.list (ks.map natD))) k st he wh) g5 := set_ok (by simp [e8])
  generalize hρ2 : T17 t b nm od nu (.sh (encL os ws)) (.sh (plD p)) (.sh (.int (os.length : Int))) (.sh (plD q)) (.sh (.int (room : Int))) (.sh (.list (ks.map natD))) k st he wh = ρ2 at s8
  have c7 : ρ2[7]? = some (.sh (encL os ws)) := by rw [← hρ2]; rfl
  have c8 : ρ2[8]? = some (.sh (plD p)) := by rw [← hρ2]; rfl
  have c11 : ρ2[11]? = some (.sh (.int (room : Int))) := by rw [← hρ2]; rfl
  have c12 : ρ2[12]? = some (.sh (.list (ks.map natD))) := by rw [← hρ2]; rfl
  have f1 := firstWays_ok V hp hr ks kk (by omega) g5
  have f2 := lawFirst_ok V hpl hr ks kk (by omega) g5
  have s9 : ifS (notT (truthD (callD 2 m_law_equal (consD (callD 4 m_first_ways_chance (consD (varD 7) (consD (varD 8) (consD (varD 11) (consD (unD listD (varD 12)) nilD))))) (consD (callD 4 m_law_first (consD (varD 7) (consD (varD 8) (consD (varD 11) (consD (varD 12) nilD))))) nilD)))))
    (retS (constD (.bool false))) nextS ρ2 g5 = .nx ρ2 g5 := skip (eq_no (call_ok (ds := [encL os ws, plD p, .int (room : Int), .list (ks.map natD)]) (cons2 (vv c7) (cons2 (vv c8) (cons2 (vv c11) (cons2 (un2 (o := listD) (vv c12) rfl) (es := nilD) (ds := []) rfl)))) rfl f1) (call_ok (ds := [encL os ws, plD p, .int (room : Int), .list (ks.map natD)]) (cons2 (vv c7) (cons2 (vv c8) (cons2 (vv c11) (cons2 (vv c12) (es := nilD) (ds := []) rfl)))) rfl f2) (nar_Q _ 6))
  have ek : ∃ (kk : Nat) (g6 : DL.G), kk ≤ 40 ∧ Dr ms g6 ∧ opD modD (callG 1 1 m_law_draw nilD) (opD ixD (shareO (lstO (consD (constD (.int 4)) (consD (constD (.int 41)) nilD)))) (opD modD (callG 1 1 m_law_draw nilD) (constD (.int 2)))) ρ2 g5 = .ok (.int (kk : Int)) g6 := by
    obtain ⟨z, ga, z0, z1, hz, hga⟩ := drawM hg5 (n := 2) (by decide)
    obtain ⟨c, gb, hc, hgb, ec⟩ := drawE hga (ρ := ρ2) (i := 1) (by rw [← hρ2]; rfl) (e := constD (.int 2)) (m := 2) (by decide) (fun _ => rfl)
    have d1 : callG 1 1 m_law_draw nilD ρ2 g5 = .ok (.int z) ga := by
      have : ρ2[1]? = some .dr := by rw [← hρ2]; rfl
      simp [this, hz]
    have pick : ∃ m : Nat, 0 < m ∧ m ≤ 41 ∧ opD ixD (shareO (lstO (consD (constD (.int 4)) (consD (constD (.int 41)) nilD)))) (opD modD (callG 1 1 m_law_draw nilD) (constD (.int 2))) ρ2 ga = .ok (.int (m : Int)) gb := by
      rcases (by omega : c = 0 ∨ c = 1) with rfl | rfl
      · exact ⟨4, by decide, by decide, op2 (a := .list [.int 4, .int 41]) (g1 := ga) rfl ec (L2.atI_nat (j := 0) rfl)⟩
      · exact ⟨41, by decide, by decide, op2 (a := .list [.int 4, .int 41]) (g1 := ga) rfl ec (L2.atI_nat (j := 1) rfl)⟩
    obtain ⟨m, m0, m1, em⟩ := pick
    refine ⟨(z % (m : Int)).toNat, gb, ?_, hgb, ?_⟩
    · have := md_bd (r := z) (n := (m : Int)) (by omega)
      omega
    · refine op2 d1 em ?_
      rw [md (by omega)]
      have := md_bd (r := z) (n := (m : Int)) (by omega)
      congr 2
      omega
  obtain ⟨kk', g6, hk40, hg6, e10⟩ := ek
  have s10 := set_ok (i := 13) e10
  rw [← hρ2] at s10
  replace s10 : _ = SR.nx (T17 t b nm od nu (.sh (encL os ws)) (.sh (plD p)) (.sh (.int (os.length : Int))) (.sh (plD q)) (.sh (.int (room : Int))) (.sh (.list (ks.map natD))) (.sh (.int (kk' : Int))) st he wh) g6 := s10
  rw [hρ2] at s10
  have sp := lawSpread_ok V hp hr hk40 g6
  have lst := lawSteps_ok V hp g6
  have s11 : asgS (callD 3 m_law_spread (consD (callD 2 m_law_steps (consD (varD 7) (consD (varD 8) nilD))) (consD (varD 11) (consD (varD 13) nilD)))) (tupT (consT (nameT 15) (consT (nameT 16) nilT))) (T17 t b nm od nu (.sh (encL os ws)) (.sh (plD p)) (.sh (.int (os.length : Int))) (.sh (plD q)) (.sh (.int (room : Int))) (.sh (.list (ks.map natD))) (.sh (.int (kk' : Int))) st he wh) g6 =
      .nx (T17 t b nm od nu (.sh (encL os ws)) (.sh (plD p)) (.sh (.int (os.length : Int))) (.sh (plD q)) (.sh (.int (room : Int))) (.sh (.list (ks.map natD))) (.sh (.int (kk' : Int))) st (.sh (vD (spreadP os ws p room kk'))) (.sh (encQ (wholeP os ws p room kk')))) g6 :=
    asg_ok (call_ok (ds := [stepsD os ws p, .int (room : Int), .int (kk' : Int)]) (cons2 (call_ok (ds := [encL os ws, plD p]) rfl rfl lst) (cons2 (d := .int (room : Int)) (g1 := g6) rfl (cons2 (d := .int (kk' : Int)) (g1 := g6) rfl (es := nilD) (ds := []) rfl))) rfl sp) rfl
  have spl := (spread_sp V hp room kk' (by omega)).l
  have sa := stepsAt_ok V hp hr hk40 g6
  have am := amountAt_ok V hp hr hk40 g6
  generalize hSP : spreadP os ws p room kk' = SP at s11 spl sa
  generalize wholeP os ws p room kk' = WH at s11 am
  generalize hρ3 : T17 t b nm od nu (.sh (encL os ws)) (.sh (plD p)) (.sh (.int (os.length : Int))) (.sh (plD q)) (.sh (.int (room : Int))) (.sh (.list (ks.map natD))) (.sh (.int (kk' : Int))) st (.sh (vD SP)) (.sh (encQ WH)) = ρ3 at s11
  have d7 : ρ3[7]? = some (.sh (encL os ws)) := by rw [← hρ3]; rfl
  have d8 : ρ3[8]? = some (.sh (plD p)) := by rw [← hρ3]; rfl
  have d9 : ρ3[9]? = some (.sh (.int (os.length : Int))) := by rw [← hρ3]; rfl
  have d11 : ρ3[11]? = some (.sh (.int (room : Int))) := by rw [← hρ3]; rfl
  have d13 : ρ3[13]? = some (.sh (.int (kk' : Int))) := by rw [← hρ3]; rfl
  have d15 : ρ3[15]? = some (.sh (vD SP)) := by rw [← hρ3]; rfl
  have d16 : ρ3[16]? = some (.sh (encQ WH)) := by rw [← hρ3]; rfl
  have args : consD (varD 7) (consD (varD 8) (consD (varD 11) (consD (varD 13) nilD))) ρ3 g6 = .ok [encL os ws, plD p, .int (room : Int), .int (kk' : Int)] g6 := cons2 (vv d7) (cons2 (vv d8) (cons2 (vv d11) (cons2 (vv d13) (es := nilD) (ds := []) rfl)))
  have s12 : ifS (orT (notT (truthD (callD 2 m_law_equal (consD (callD 4 m_steps_at (consD (varD 7) (consD (varD 8) (consD (varD 11) (consD (varD 13) nilD))))) (consD (varD 15) nilD))))) (notT (truthD (callD 2 m_law_equal (consD (callD 4 m_amount_at (consD (varD 7) (consD (varD 8) (consD (varD 11) (consD (varD 13) nilD))))) (consD (varD 16) nilD))))))
    (retS (constD (.bool false))) nextS ρ3 g6 = .nx ρ3 g6 := skip ((orT_no (eq_no (call_ok args rfl sa) (vv d15) (nar_v (by omega)))).trans (eq_no (call_ok args rfl am) (vv d16) (nar_Q _ 6)))
  obtain ⟨sd, g7, hsd, hg7, e13⟩ := pick_list hg6 (ρ := ρ3) (i := 1) (by rw [← hρ3]; rfl) (e := shareO (lstO (consD (constD .none) (consD (opD addD (varD 8) (tupD (consD (constD (.int 0)) nilD))) (consD (unD listD (varD 8)) (consD (opD mulD (tupD (consD (unD lenD (opD ixD (varD 7) (constD (.int 1)))) nilD)) (varD 9)) (consD (opD mulD (tupD (consD (constD (.bool true)) nilD)) (varD 9)) (consD (opD mulD (tupD (consD (unD negD (constD (.int 1))) nilD)) (varD 9)) nilD)))))))) (c := constD (.int 6)) (ds := strangeL os ws p) (fun g => by
      have rp : ∀ (e : Ex) (d : PyData), e ρ3 g = .ok d g → opD mulD (tupD (consD e nilD)) (varD 9) ρ3 g = .ok (.tuple (List.replicate os.length d)) g := fun e d he => op2 (o := mulD) (a := .tuple [d]) (tup2 (cons2 he (es := nilD) (ds := []) rfl) (by show 1 ≤ 1000; decide)) (vv d9) (mul_tup d os.length n1 (by omega))
      exact share2 (lst2 (cons2 (e := constD .none) (d := .none) (g1 := g) rfl (cons2 (op2 (o := addD) (e2 := tupD (consD (constD (.int 0)) nilD)) (b := .tuple [.int 0]) (vv d8) rfl (addT _ _ (by rw [List.length_map]; show _ + 1 ≤ _; omega))) (cons2 (un2 (o := listD) (vv d8) rfl) (cons2 (rp _ _ (un2 (ix_wys ρ3 (i := 7) g d7) len_wyD)) (cons2 (rp (constD (.bool true)) (.bool true) rfl) (cons2 (rp (unD negD (constD (.int 1))) (.int (-1)) rfl) (es := nilD) (ds := []) rfl)))))) (by show 6 ≤ 1000; decide))) (fun _ => rfl) (fun z => nomatch z)
  have s14 := set_ok (i := 14) e13
  rw [← hρ3] at s14
  replace s14 : _ = SR.nx (T17 t b nm od nu (.sh (encL os ws)) (.sh (plD p)) (.sh (.int (os.length : Int))) (.sh (plD q)) (.sh (.int (room : Int))) (.sh (.list (ks.map natD))) (.sh (.int (kk' : Int))) (.sh sd) (.sh (vD SP)) (.sh (encQ WH))) g7 := s14
  rw [hρ3] at s14
  generalize hρ4 : T17 t b nm od nu (.sh (encL os ws)) (.sh (plD p)) (.sh (.int (os.length : Int))) (.sh (plD q)) (.sh (.int (room : Int))) (.sh (.list (ks.map natD))) (.sh (.int (kk' : Int))) (.sh sd) (.sh (vD SP)) (.sh (encQ WH)) = ρ4 at s14
  have f7 : ρ4[7]? = some (.sh (encL os ws)) := by rw [← hρ4]; rfl
  have f14 : ρ4[14]? = some (.sh sd) := by rw [← hρ4]; rfl
  have f4 : ρ4[4]? = some nm := by rw [← hρ4]; rfl
  have fl : ρ4.length = 17 := by rw [← hρ4]; rfl
  have bad := strange_bad V hp g7 sd hsd
  have s15 : ifS (notT (truthD (callD 2 m_law_equal (consD (callD 2 m_is_choice (consD (varD 7) (consD (varD 14) nilD))) (consD (constD (.bool false)) nilD)))))
    (retS (constD (.bool false))) nextS ρ4 g7 = .nx ρ4 g7 := skip (eq_no (call_ok (ds := [encL os ws, sd]) (cons2 (vv f7) (cons2 (vv f14) (es := nilD) (ds := []) rfl)) rfl (isChoice_by V bad)) rfl trivial)
  obtain ⟨z', s16⟩ := names_for (E := callD 5 m_law_error (consD (varD 4) (consD (varD 7) (consD (varD 14) (consD (constD (.int 0)) (consD (constD (.int 0)) nilD)))))) (wd := "argument") (ss := four) (fi := itemsD (shareO (lstO (consD (constD (strD "first")) (consD (constD (strD "steps")) (consD (constD (strD "amount")) (consD (constD (strD "chances")) nilD))))))) (ρ := ρ4) (g := g7) (by omega) f4 rfl (fun s hs =>
    call_ok (ds := [strD s, encL os ws, sd, .int 0, .int 0]) (cons2 (vv (List.getElem?_set_self (by omega))) (cons2 (vv (by rw [List.getElem?_set_ne (by decide)]; exact f7)) (cons2 (vv (by rw [List.getElem?_set_ne (by decide)]; exact f14)) (cons2 (e := constD (.int 0)) (d := .int 0) (g1 := g7) rfl (cons2 (e := constD (.int 0)) (d := .int 0) (g1 := g7) rfl (es := nilD) (ds := []) rfl))))) rfl (all_ex (.inr rfl) (checkChoice_bad V bad) s hs))
  refine ⟨os, ws, p, g7, z', .sh (plD q), .sh (.int (room : Int)), .sh (.list (ks.map natD)), .sh (.int (kk' : Int)), .sh sd, .sh (vD SP), .sh (encQ WH), V, hp, hg7, ?_⟩
  refine (seq_eq s1).trans ((seq_eq s2).trans ((seq_eq s3).trans ?_))
  rw [hρ0]
  refine (seq_eq s4).trans ((seq_eq s5).trans ((seq_eq s6).trans ((seq_eq s7).trans ((seq_eq s8).trans ((seq_eq s9).trans ((seq_eq s10).trans ((seq_eq s11).trans ((seq_eq s12).trans ((seq_eq s14).trans ((seq_eq s15).trans (s16.trans ?_)))))))))))
  rw [← hρ4]
  rfl
end
end K

set_option Elab.async false
set_option linter.all false
set_option maxRecDepth 100000
set_option maxHeartbeats 400000
namespace K
open PySem DL PyProof.Rows
theorem law_runs (ms : List Int) (hs : Small ms) : ∃ g', b_law (.no :: .dr :: List.replicate 15 .no) (some (ms, 0)) = .rt (.bool true) g' := by
  obtain ⟨ρ', g1, h1, hg1, tt, nm, P7, P8, P9, o, r, pl, k, st, he, wh, rfl, hx⟩ := forD_all (t := nameT 2) (body := turnL4) (fun k : Nat => PyData.int (0 + (k : Int)))
    (fun pre ρ g => Dr ms g ∧ ∃ t nm P7 P8 P9 o r pl k st he wh, ρ = T17 t .no nm .no .no P7 P8 P9 o r pl k st he wh ∧ (pre ≠ [] → ∃ (os : List Int) (ws : List W4) (p : List (Option Nat)), Vl os ws ∧ Plan os ws p ∧ P7 = .sh (encL os ws) ∧ P8 = .sh (plD p) ∧ P9 = .sh (.int (os.length : Int)))) (List.range 3) (by
      rintro pre i post e ρ g ⟨hg, t, nm, P7, P8, P9, o, r, pl, k, st, he, wh, rfl, _⟩
      obtain ⟨os, ws, p, g', nm', o', r', pl', k', st', he', wh', V, hp, hg', h⟩ := turnL_ok hg (.sh (.int (0 + (i : Int)))) .no nm .no .no P7 P8 P9 o r pl k st he wh
      exact ⟨_, _, g', rfl, .inl h, hg', _, _, _, _, _, _, _, _, _, _, _, _, rfl, fun _ => ⟨os, ws, p, V, hp, rfl, rfl, rfl⟩⟩) (g := some (ms, 0)) (ρ := T17 .no .no .no .no .no .no .no .no .no .no .no .no .no .no .no) ⟨⟨0, by decide, rfl⟩, _, _, _, _, _, _, _, _, _, _, _, _, rfl, fun h => absurd rfl h⟩
  obtain ⟨os, ws, p, V, hp, rfl, rfl, rfl⟩ := hx (by decide)
  have n1 := V.n1
  obtain ⟨bad, g2, hg2, e2, hbad⟩ := spoilt_ok V hg1
  show Ends b_law _ _ _
  unfold b_law
  refine go_seq (for_run (g1 := some (ms, 0)) (range_ok (n := 3) rfl (by decide)) h1) ?_
  refine go_seq (ρ1 := T17 tt (.sh bad) nm .no .no (.sh (encL os ws)) (.sh (plD p)) (.sh (.int (os.length : Int))) o r pl k st he wh) (g1 := g2) (set_ok (by simp [e2])) ?_
  generalize hρ : T17 tt (.sh bad) nm .no .no (.sh (encL os ws)) (.sh (plD p)) (.sh (.int (os.length : Int))) o r pl k st he wh = ρ1
  have a3 : ρ1[3]? = some (.sh bad) := by rw [← hρ]; rfl
  have a4 : ρ1[4]? = some nm := by rw [← hρ]; rfl
  have a8 : ρ1[8]? = some (.sh (plD p)) := by rw [← hρ]; rfl
  have al : ρ1.length = 17 := by rw [← hρ]; rfl
  refine go_seq (skip (eq_no (d := .bool false) (call_ok (ds := [bad]) (cons2 (vv a3) (es := nilD) (ds := []) rfl) rfl (hbad g2)) rfl trivial)) ?_
  have hE : ∀ s ∈ ("choice" :: four), callD 5 m_law_error (consD (varD 4) (consD (varD 3) (consD (varD 8) (consD (constD (.int 0)) (consD (constD (.int 0)) nilD))))) (ρ1.set 4 (.sh (strD s))) g2 = .ok (strD "program") g2 := fun s hs => by
    obtain ⟨b1, b2⟩ := bad_choice (P := plD p) (hbad g2)
    refine call_ok (ds := [strD s, bad, plD p, .int 0, .int 0]) (cons2 (vv (List.getElem?_set_self (by omega))) (cons2 (vv (by rw [List.getElem?_set_ne (by decide)]; exact a3)) (cons2 (vv (by rw [List.getElem?_set_ne (by decide)]; exact a8)) (cons2 (e := constD (.int 0)) (d := .int 0) (g1 := g2) rfl (cons2 (e := constD (.int 0)) (d := .int 0) (g1 := g2) rfl (es := nilD) (ds := []) rfl))))) rfl ?_
    rcases List.mem_cons.mp hs with rfl | hs
    · exact err_choice (n := 0) (.inl rfl) b1
    · exact all_ex (n := 0) (.inl rfl) b2 s hs
  obtain ⟨z', s16⟩ := names_for (wd := "program") (ss := "choice" :: four) (fi := itemsD (shareO (lstO (consD (constD (strD "choice")) (consD (constD (strD "first")) (consD (constD (strD "steps")) (consD (constD (strD "amount")) (consD (constD (strD "chances")) nilD)))))))) (ρ := ρ1) (g := g2) (by omega) a4 rfl hE
  refine go_seq s16 ?_
  rw [← hρ]
  show Ends _ (T17 tt (.sh bad) z' .no .no (.sh (encL os ws)) (.sh (plD p)) (.sh (.int (os.length : Int))) o r pl k st he wh) g2 _
  obtain ⟨odd, g3, hodd, hg3, e3⟩ := pick_list hg2 (ρ := T17 tt (.sh bad) z' .no .no (.sh (encL os ws)) (.sh (plD p)) (.sh (.int (os.length : Int))) o r pl k st he wh) (i := 1) rfl (e := shareO (lstO (consD (varD 9) (consD (unD negD (constD (.int 1))) (consD (constD (.bool true)) (consD (constD .none) nilD)))))) (c := constD (.int 4)) (ds := [.int (os.length : Int), .int (-1), .bool true, .none]) (fun _ => rfl) (fun _ => rfl) (fun z => nomatch z)
  refine go_seq (ρ1 := T17 tt (.sh bad) z' (.sh odd) .no (.sh (encL os ws)) (.sh (plD p)) (.sh (.int (os.length : Int))) o r pl k st he wh) (g1 := g3) (set_ok e3) ?_
  generalize hρ2 : T17 tt (.sh bad) z' (.sh odd) .no (.sh (encL os ws)) (.sh (plD p)) (.sh (.int (os.length : Int))) o r pl k st he wh = ρ2
  have b4 : ρ2[4]? = some z' := by rw [← hρ2]; rfl
  have b5 : ρ2[5]? = some (.sh odd) := by rw [← hρ2]; rfl
  have b7 : ρ2[7]? = some (.sh (encL os ws)) := by rw [← hρ2]; rfl
  have b8 : ρ2[8]? = some (.sh (plD p)) := by rw [← hρ2]; rfl
  have bl : ρ2.length = 17 := by rw [← hρ2]; rfl
  obtain ⟨z2, s17⟩ := names_for (E := callD 5 m_law_error (consD (varD 4) (consD (varD 7) (consD (varD 8) (consD (varD 5) (consD (constD (.int 0)) nilD)))))) (wd := "argument") (ss := four) (fi := itemsD (shareO (lstO (consD (constD (strD "first")) (consD (constD (strD "steps")) (consD (constD (strD "amount")) (consD (constD (strD "chances")) nilD))))))) (ρ := ρ2) (g := g3) (by omega) b4 rfl (fun s hs =>
    call_ok (ds := [strD s, encL os ws, plD p, odd, .int 0]) (cons2 (vv (List.getElem?_set_self (by omega))) (cons2 (vv (by rw [List.getElem?_set_ne (by decide)]; exact b7)) (cons2 (vv (by rw [List.getElem?_set_ne (by decide)]; exact b8)) (cons2 (vv (by rw [List.getElem?_set_ne (by decide)]; exact b5)) (cons2 (e := constD (.int 0)) (d := .int 0) (g1 := g3) rfl (es := nilD) (ds := []) rfl))))) rfl (all_room (checkChoice_ok V hp g3) (odd_room g3 odd hodd).1 (odd_room g3 odd hodd).2 s hs))
  refine go_seq s17 ?_
  rw [← hρ2]
  show Ends _ (T17 tt (.sh bad) z2 (.sh odd) .no (.sh (encL os ws)) (.sh (plD p)) (.sh (.int (os.length : Int))) o r pl k st he wh) g3 _
  generalize hρ3 : T17 tt (.sh bad) z2 (.sh odd) .no (.sh (encL os ws)) (.sh (plD p)) (.sh (.int (os.length : Int))) o r pl k st he wh = ρ3
  have c1 : ρ3[1]? = some .dr := by rw [← hρ3]; rfl
  have c7 : ρ3[7]? = some (.sh (encL os ws)) := by rw [← hρ3]; rfl
  have c8 : ρ3[8]? = some (.sh (plD p)) := by rw [← hρ3]; rfl
  have eE : ∀ {E : Ex} {ρ : Nv} {g g' : DL.G}, E ρ g = .ok (strD "argument") g' → boolD (opD neD E (constD (strD "argument"))) ρ g = .ok false g' ∧ opD eqD E (constD (strD "argument")) ρ g = .ok (.bool true) g' := fun {E ρ g g'} h => by
    have en : neD (strD "argument") (strD "argument") = some (.bool false) := by simp [neD, eqD]
    have ee : eqD (strD "argument") (strD "argument") = some (.bool true) := by simp [eqD]
    generalize strD "argument" = W at h en ee ⊢
    generalize neD = M at en ⊢
    generalize eqD = M2 at ee ⊢
    exact ⟨by simp [h, en], by simp [h, ee]⟩
  obtain ⟨pp, g4, hpp, hg4, e4⟩ := pick_list hg3 (ρ := ρ3) (i := 1) c1 (e := shareO (lstO (consD (constD .none) (consD (tupD (consD (constD (.int 0)) nilD)) (consD (shareO (lstO (consD (unD lenD (opD ixD (varD 7) (constD (.int 1)))) nilD))) (consD (shareO (lstO (consD (constD (.bool true)) nilD))) (consD (opD mulD (shareO (lstO (consD (constD (.int 0)) nilD))) (constD (.int 61))) nilD))))))) (c := constD (.int 5)) (ds := placesL ws) (fun g => share2 (lst2 (cons2 (e := constD .none) (d := .none) (g1 := g) rfl (cons2 (e := tupD (consD (constD (.int 0)) nilD)) (d := .tuple [.int 0]) (g1 := g) rfl (cons2 (share2 (lst2 (cons2 (un2 (ix_wys ρ3 (i := 7) g c7) len_wyD) (es := nilD) (ds := []) rfl) (by show 1 ≤ 1000; decide))) (cons2 (e := shareO (lstO (consD (constD (.bool true)) nilD))) (d := .list [.bool true]) (g1 := g) rfl (cons2 (mul_ex (d := .int 0) (n := 61) (g := g) rfl rfl (by decide)) (es := nilD) (ds := []) rfl))))) (by show 5 ≤ 1000; decide))) (fun _ => rfl) (fun z => nomatch z)
  refine go_seq (g1 := g4) (ρ1 := ρ3) ((if_no (eE (E := callD 5 m_law_error (consD (constD (strD "first")) (consD (varD 7) (consD (varD 8) (consD (constD (.int 0)) (consD _ nilD)))))) (call_ok (ds := [strD "first", encL os ws, plD p, .int 0, pp]) (cons2 (e := constD (strD "first")) (d := strD "first") (g1 := g3) rfl (cons2 (vv c7) (cons2 (vv c8) (cons2 (e := constD (.int 0)) (d := .int 0) (g1 := g3) rfl (cons2 e4 (es := nilD) (ds := []) rfl))))) rfl (bad_places V hp g4 pp hpp))).1).trans rfl) ?_
  rw [← hρ3]
  obtain ⟨nu, g5, hnu, hg5, e5⟩ := pick_list hg4 (ρ := T17 tt (.sh bad) z2 (.sh odd) .no (.sh (encL os ws)) (.sh (plD p)) (.sh (.int (os.length : Int))) o r pl k st he wh) (i := 1) rfl (e := shareO (lstO (consD (unD negD (constD (.int 1))) (consD (constD (.int 41)) (consD (constD (.bool true)) (consD (constD .none) nilD)))))) (c := constD (.int 4)) (ds := [.int (-1), .int 41, .bool true, .none]) (fun _ => rfl) (fun _ => rfl) (fun z => nomatch z)
  refine go_seq (ρ1 := T17 tt (.sh bad) z2 (.sh odd) (.sh nu) (.sh (encL os ws)) (.sh (plD p)) (.sh (.int (os.length : Int))) o r pl k st he wh) (g1 := g5) (set_ok e5) ?_
  generalize hρ4 : T17 tt (.sh bad) z2 (.sh odd) (.sh nu) (.sh (encL os ws)) (.sh (plD p)) (.sh (.int (os.length : Int))) o r pl k st he wh = ρ4
  have d1 : ρ4[1]? = some .dr := by rw [← hρ4]; rfl
  have d6 : ρ4[6]? = some (.sh nu) := by rw [← hρ4]; rfl
  have d7 : ρ4[7]? = some (.sh (encL os ws)) := by rw [← hρ4]; rfl
  have d8 : ρ4[8]? = some (.sh (plD p)) := by rw [← hρ4]; rfl
  have d9 : ρ4[9]? = some (.sh (.int (os.length : Int))) := by rw [← hρ4]; rfl
  have nums := num_steps V hp (bad_number g5 nu hnu)
  have args : ∀ s : String, consD (constD (strD s)) (consD (varD 7) (consD (varD 8) (consD (constD (.int 0)) (consD (varD 6) nilD)))) ρ4 g5 = .ok [strD s, encL os ws, plD p, .int 0, nu] g5 := fun s => cons2 (e := constD (strD s)) (d := strD s) (g1 := g5) rfl (cons2 (vv d7) (cons2 (vv d8) (cons2 (e := constD (.int 0)) (d := .int 0) (g1 := g5) rfl (cons2 (vv d6) (es := nilD) (ds := []) rfl))))
  refine go_seq (g1 := g5) (ρ1 := ρ4) ((if_no ((orT_no (eE (call_ok (args "steps") rfl nums.1)).1).trans (eE (call_ok (args "amount") rfl nums.2)).1)).trans rfl) ?_
  obtain ⟨go, g6, hgo, hg6, e6⟩ := pick_list hg5 (ρ := ρ4) (i := 1) d1 (e := shareO (lstO (consD (constD .none) (consD (shareO (lstO (consD (constD (.int 0)) nilD))) (consD (tupD (consD (varD 9) nilD)) (consD (tupD (consD (constD (.int 0)) (consD (constD (.int 0)) nilD))) (consD (tupD (consD (constD (.bool true)) nilD)) nilD))))))) (c := constD (.int 5)) (ds := goalsL os) (fun g => share2 (lst2 (cons2 (e := constD .none) (d := .none) (g1 := g) rfl (cons2 (e := shareO (lstO (consD (constD (.int 0)) nilD))) (d := .list [.int 0]) (g1 := g) rfl (cons2 (tup2 (cons2 (vv d9) (es := nilD) (ds := []) rfl) (by show 1 ≤ 1000; decide)) (cons2 (e := tupD (consD (constD (.int 0)) (consD (constD (.int 0)) nilD))) (d := .tuple [.int 0, .int 0]) (g1 := g) rfl (cons2 (e := tupD (consD (constD (.bool true)) nilD)) (d := .tuple [.bool true]) (g1 := g) rfl (es := nilD) (ds := []) rfl))))) (by show 5 ≤ 1000; decide))) (fun _ => rfl) (fun z => nomatch z)
  exact ⟨g6, ret_ok (eE (call_ok (ds := [strD "chances", encL os ws, plD p, go, .none]) (cons2 (e := constD (strD "chances")) (d := strD "chances") (g1 := g5) rfl (cons2 (vv d7) (cons2 (vv d8) (cons2 e6 (cons2 (e := constD .none) (d := .none) (g1 := g6) rfl (es := nilD) (ds := []) rfl))))) rfl (bad_goals V hp g6 go hgo))).2⟩
end K

set_option Elab.async false
set_option linter.all false
set_option maxRecDepth 100000
set_option maxHeartbeats 1000000
namespace K
open PySem PySem.Spec PyProof.Rows L2 DL
section
theorem exm_of {K : PySem.W.Frag} {S T : Addr} {b : Bool} (h1 : PySem.W.subIn K (.ref T) (.type "BaseException") = some true) (h2 : PySem.W.isClsIn K T = true) (h3 : PySem.W.typeIn K (.ref T) = some (.type "type")) (h4 : PySem.W.subIn K (.ref S) (.ref T) = some b) :
    PySem.W.exmOne K (.ref S) (.ref T) = some b := by
  have e1 : (PySem.W.subIn K (.ref T) (.type "BaseException") == some true) = true := by rw [h1] <;> rfl
  have e2 : ((PySem.W.clsIn K T).isSome && PySem.W.typeIn K (.ref T) == some (.type "type")) = true := by
    have h2' : (PySem.W.clsIn K T).isSome = true := h2
    rw [h2', h3] <;> rfl
  show (if (PySem.W.subIn K (.ref T) (.type "BaseException") == some true) = true then (if ((PySem.W.clsIn K T).isSome && PySem.W.typeIn K (.ref T) == some (.type "type")) = true then PySem.W.subIn K (.ref S) (.ref T) else none) else none) = some b
  rw [if_pos e1, if_pos e2]
  exact h4
theorem cx_no {P : Program} {w : World} {H : Hp} {s s2 : Shared} {v : Value} (h : L2.CX P w [] H s (fun _ _ _ => False) v s2) : False := by
  obtain ⟨_, _, _, _, _, _, _, _, _, _, _, _, h⟩ := h
  exact h
set_option maxHeartbeats 4000000 in
theorem all_mk {l : PySem.W.OpenLaw} {w : World} {K : PySem.W.Frag} {h : Heap} {mg : Str → Option Value} (X : K.In h) (G : h.Ns mainGlobals mg) {fa C0 C1 f0 f1 f2 f3 f4 f5 f6 f7 f8 f9 f10 f11 f12 f13 f14 f15 f16 f17 f18 f19 f20 f21 f22 f23 f24 f25 f26 f27 f28 f29 f30 f31 f32 f33 f34 f35 f36 f37 f38 f39 f40 f41 f42 f43 f44 f45 : Addr} {od0 od1 od2 od3 od4 od5 od6 od7 od8 od9 od10 od11 od12 od13 od14 od15 od16 od17 od18 od19 od20 od21 od22 od23 od24 od25 od26 od27 od28 od29 od30 od31 od32 od33 od34 od35 od36 od37 od38 od39 od40 od41 od42 od43 od44 od45 an0 an1 an2 an3 an4 an5 an6 an7 an8 an9 an10 an11 an12 an13 an14 an15 an16 an17 an18 an19 an20 an21 an22 an23 an24 an25 an26 an27 an28 an29 an30 an31 an32 an33 an34 an35 an36 an37 an38 an39 an40 an41 an42 an43 an44 an45 : Option Addr} {sl0 sl1 sl2 sl3 sl4 sl5 sl6 sl7 sl8 sl9 sl10 sl11 sl12 sl13 sl14 sl15 sl16 sl17 sl18 sl19 sl20 sl21 sl22 sl23 sl24 sl25 sl26 sl27 sl28 sl29 sl30 sl31 sl32 sl33 sl34 sl35 sl36 sl37 sl38 sl39 sl40 sl41 sl42 sl43 sl44 sl45 : Array (Option Value)} {oc0 oc1 oc2 oc3 oc4 oc5 oc6 oc7 oc8 oc9 oc10 oc11 oc12 oc13 oc14 oc15 oc16 oc17 oc18 oc19 oc20 oc21 oc22 oc23 oc24 oc25 oc26 oc27 oc28 oc29 oc30 oc31 oc32 oc33 oc34 oc35 oc36 oc37 oc38 oc39 oc40 oc41 oc42 oc43 oc44 oc45 kV0 kV1 kV2 kV3 kV4 kV5 kV6 kV7 kV8 kV9 kV10 kV11 kV12 kV13 kV14 kV15 kV16 kV17 kV18 kV19 kV20 kV21 kV22 kV23 kV24 kV25 kV26 kV27 kV28 kV29 kV30 kV31 kV32 kV33 kV34 kV35 kV36 kV37 kV38 kV39 kV40 kV41 kV42 kV43 kV44 kV45 dc0 dc1 dc2 dc3 dc4 dc5 dc6 dc7 dc8 dc9 dc10 dc11 dc12 dc13 dc14 dc15 dc16 dc17 dc18 dc19 dc20 dc21 dc22 dc23 dc24 dc25 dc26 dc27 dc28 dc29 dc30 dc31 dc32 dc33 dc34 dc35 dc36 dc37 dc38 dc39 dc40 dc41 dc42 dc43 dc44 dc45 pm0 pm1 pm2 pm3 pm4 pm5 pm6 pm7 pm8 pm9 pm10 pm11 pm12 pm13 pm14 pm15 pm16 pm17 pm18 pm19 pm20 pm21 pm22 pm23 pm24 pm25 pm26 pm27 pm28 pm29 pm30 pm31 pm32 pm33 pm34 pm35 pm36 pm37 pm38 pm39 pm40 pm41 pm42 pm43 pm44 pm45 cd0 cd1 cd2 cd3 cd4 cd5 cd6 cd7 cd8 cd9 cd10 cd11 cd12 cd13 cd14 cd15 cd16 cd17 cd18 cd19 cd20 cd21 cd22 cd23 cd24 cd25 cd26 cd27 cd28 cd29 cd30 cd31 cd32 cd33 cd34 cd35 cd36 cd37 cd38 cd39 cd40 cd41 cd42 cd43 cd44 cd45 ct0 ct1 ct2 ct3 ct4 ct5 ct6 ct7 ct8 ct9 ct10 ct11 ct12 ct13 ct14 ct15 ct16 ct17 ct18 ct19 ct20 ct21 ct22 ct23 ct24 ct25 ct26 ct27 ct28 ct29 ct30 ct31 ct32 ct33 ct34 ct35 ct36 ct37 ct38 ct39 ct40 ct41 ct42 ct43 ct44 ct45 : Value} {t_MOST_AMOUNT t_MOST_PLACES t_MOST_ROOMS t_MOST_SHARE t_MOST_STEPS t_MOST_WAYS : _} (hfa : mg "law" = some (.ref fa))
    (a0 : PySem.W.nsIn K mainGlobals "_law_mixed" = some (some (.ref f0)))
    (l0 : K.lookup f0 = some ⟨oc0, od0, .func (PySem.W.fnOf "_law_mixed" "_law_mixed" (defArgs s_law_mixed) (defBody s_law_mixed) (defScope s_law_mixed) .none kV0 dc0 pm0 an0 cd0 ct0), sl0⟩)
    (c0 : PySem.W.codeIn K cd0 "_law_mixed" = true) (k0 : PySem.W.keepIn K (.ref f0) = true)
    (a1 : PySem.W.nsIn K mainGlobals "_law_draw" = some (some (.ref f1)))
    (l1 : K.lookup f1 = some ⟨oc1, od1, .func (PySem.W.fnOf "_law_draw" "_law_draw" (defArgs s_law_draw) (defBody s_law_draw) (defScope s_law_draw) .none kV1 dc1 pm1 an1 cd1 ct1), sl1⟩)
    (c1 : PySem.W.codeIn K cd1 "_law_draw" = true) (k1 : PySem.W.keepIn K (.ref f1) = true)
    (a2 : PySem.W.nsIn K mainGlobals "_law_spoilt" = some (some (.ref f2)))
    (l2 : K.lookup f2 = some ⟨oc2, od2, .func (PySem.W.fnOf "_law_spoilt" "_law_spoilt" (defArgs s_law_spoilt) (defBody s_law_spoilt) (defScope s_law_spoilt) .none kV2 dc2 pm2 an2 cd2 ct2), sl2⟩)
    (c2 : PySem.W.codeIn K cd2 "_law_spoilt" = true) (k2 : PySem.W.keepIn K (.ref f2) = true)
    (a3 : PySem.W.nsIn K mainGlobals "_law_numbers" = some (some (.ref f3)))
    (l3 : K.lookup f3 = some ⟨oc3, od3, .func (PySem.W.fnOf "_law_numbers" "_law_numbers" (defArgs s_law_numbers) (defBody s_law_numbers) (defScope s_law_numbers) .none kV3 dc3 pm3 an3 cd3 ct3), sl3⟩)
    (c3 : PySem.W.codeIn K cd3 "_law_numbers" = true) (k3 : PySem.W.keepIn K (.ref f3) = true)
    (a4 : PySem.W.nsIn K mainGlobals "_law_divisor" = some (some (.ref f4)))
    (l4 : K.lookup f4 = some ⟨oc4, od4, .func (PySem.W.fnOf "_law_divisor" "_law_divisor" (defArgs s_law_divisor) (defBody s_law_divisor) (defScope s_law_divisor) .none kV4 dc4 pm4 an4 cd4 ct4), sl4⟩)
    (c4 : PySem.W.codeIn K cd4 "_law_divisor" = true) (k4 : PySem.W.keepIn K (.ref f4) = true)
    (a5 : PySem.W.nsIn K mainGlobals "_law_part" = some (some (.ref f5)))
    (l5 : K.lookup f5 = some ⟨oc5, od5, .func (PySem.W.fnOf "_law_part" "_law_part" (defArgs s_law_part) (defBody s_law_part) (defScope s_law_part) .none kV5 dc5 pm5 an5 cd5 ct5), sl5⟩)
    (c5 : PySem.W.codeIn K cd5 "_law_part" = true) (k5 : PySem.W.keepIn K (.ref f5) = true)
    (a6 : PySem.W.nsIn K mainGlobals "_law_lottery" = some (some (.ref f6)))
    (l6 : K.lookup f6 = some ⟨oc6, od6, .func (PySem.W.fnOf "_law_lottery" "_law_lottery" (defArgs s_law_lottery) (defBody s_law_lottery) (defScope s_law_lottery) .none kV6 dc6 pm6 an6 cd6 ct6), sl6⟩)
    (c6 : PySem.W.codeIn K cd6 "_law_lottery" = true) (k6 : PySem.W.keepIn K (.ref f6) = true)
    (a7 : PySem.W.nsIn K mainGlobals "_law_places" = some (some (.ref f7)))
    (l7 : K.lookup f7 = some ⟨oc7, od7, .func (PySem.W.fnOf "_law_places" "_law_places" (defArgs s_law_places) (defBody s_law_places) (defScope s_law_places) .none kV7 dc7 pm7 an7 cd7 ct7), sl7⟩)
    (c7 : PySem.W.codeIn K cd7 "_law_places" = true) (k7 : PySem.W.keepIn K (.ref f7) = true)
    (a8 : PySem.W.nsIn K mainGlobals "_law_plan" = some (some (.ref f8)))
    (l8 : K.lookup f8 = some ⟨oc8, od8, .func (PySem.W.fnOf "_law_plan" "_law_plan" (defArgs s_law_plan) (defBody s_law_plan) (defScope s_law_plan) .none kV8 dc8 pm8 an8 cd8 ct8), sl8⟩)
    (c8 : PySem.W.codeIn K cd8 "_law_plan" = true) (k8 : PySem.W.keepIn K (.ref f8) = true)
    (a9 : PySem.W.nsIn K mainGlobals "_law_walk" = some (some (.ref f9)))
    (l9 : K.lookup f9 = some ⟨oc9, od9, .func (PySem.W.fnOf "_law_walk" "_law_walk" (defArgs s_law_walk) (defBody s_law_walk) (defScope s_law_walk) .none kV9 dc9 pm9 an9 cd9 ct9), sl9⟩)
    (c9 : PySem.W.codeIn K cd9 "_law_walk" = true) (k9 : PySem.W.keepIn K (.ref f9) = true)
    (a10 : PySem.W.nsIn K mainGlobals "_law_times" = some (some (.ref f10)))
    (l10 : K.lookup f10 = some ⟨oc10, od10, .func (PySem.W.fnOf "_law_times" "_law_times" (defArgs s_law_times) (defBody s_law_times) (defScope s_law_times) .none kV10 dc10 pm10 an10 cd10 ct10), sl10⟩)
    (c10 : PySem.W.codeIn K cd10 "_law_times" = true) (k10 : PySem.W.keepIn K (.ref f10) = true)
    (a11 : PySem.W.nsIn K mainGlobals "_law_plus" = some (some (.ref f11)))
    (l11 : K.lookup f11 = some ⟨oc11, od11, .func (PySem.W.fnOf "_law_plus" "_law_plus" (defArgs s_law_plus) (defBody s_law_plus) (defScope s_law_plus) .none kV11 dc11 pm11 an11 cd11 ct11), sl11⟩)
    (c11 : PySem.W.codeIn K cd11 "_law_plus" = true) (k11 : PySem.W.keepIn K (.ref f11) = true)
    (a12 : PySem.W.nsIn K mainGlobals "_law_spread" = some (some (.ref f12)))
    (l12 : K.lookup f12 = some ⟨oc12, od12, .func (PySem.W.fnOf "_law_spread" "_law_spread" (defArgs s_law_spread) (defBody s_law_spread) (defScope s_law_spread) .none kV12 dc12 pm12 an12 cd12 ct12), sl12⟩)
    (c12 : PySem.W.codeIn K cd12 "_law_spread" = true) (k12 : PySem.W.keepIn K (.ref f12) = true)
    (a13 : PySem.W.nsIn K mainGlobals "_law_all_equal" = some (some (.ref f13)))
    (l13 : K.lookup f13 = some ⟨oc13, od13, .func (PySem.W.fnOf "_law_all_equal" "_law_all_equal" (defArgs s_law_all_equal) (defBody s_law_all_equal) (defScope s_law_all_equal) .none kV13 dc13 pm13 an13 cd13 ct13), sl13⟩)
    (c13 : PySem.W.codeIn K cd13 "_law_all_equal" = true) (k13 : PySem.W.keepIn K (.ref f13) = true)
    (a14 : PySem.W.nsIn K mainGlobals "_law_equal" = some (some (.ref f14)))
    (l14 : K.lookup f14 = some ⟨oc14, od14, .func (PySem.W.fnOf "_law_equal" "_law_equal" (defArgs s_law_equal) (defBody s_law_equal) (defScope s_law_equal) .none kV14 dc14 pm14 an14 cd14 ct14), sl14⟩)
    (c14 : PySem.W.codeIn K cd14 "_law_equal" = true) (k14 : PySem.W.keepIn K (.ref f14) = true)
    (a15 : PySem.W.nsIn K mainGlobals "places_from" = some (some (.ref f15)))
    (l15 : K.lookup f15 = some ⟨oc15, od15, .func (PySem.W.fnOf "places_from" "places_from" (defArgs s_places_from) (defBody s_places_from) (defScope s_places_from) .none kV15 dc15 pm15 an15 cd15 ct15), sl15⟩)
    (c15 : PySem.W.codeIn K cd15 "places_from" = true) (k15 : PySem.W.keepIn K (.ref f15) = true)
    (a16 : PySem.W.nsIn K mainGlobals "is_tuple" = some (some (.ref f16)))
    (l16 : K.lookup f16 = some ⟨oc16, od16, .func (PySem.W.fnOf "is_tuple" "is_tuple" (defArgs s_is_tuple) (defBody s_is_tuple) (defScope s_is_tuple) .none kV16 dc16 pm16 an16 cd16 ct16), sl16⟩)
    (c16 : PySem.W.codeIn K cd16 "is_tuple" = true) (k16 : PySem.W.keepIn K (.ref f16) = true)
    (a17 : PySem.W.nsIn K mainGlobals "divisor" = some (some (.ref f17)))
    (l17 : K.lookup f17 = some ⟨oc17, od17, .func (PySem.W.fnOf "divisor" "divisor" (defArgs s_divisor) (defBody s_divisor) (defScope s_divisor) .none kV17 dc17 pm17 an17 cd17 ct17), sl17⟩)
    (c17 : PySem.W.codeIn K cd17 "divisor" = true) (k17 : PySem.W.keepIn K (.ref f17) = true)
    (a18 : PySem.W.nsIn K mainGlobals "is_fraction" = some (some (.ref f18)))
    (l18 : K.lookup f18 = some ⟨oc18, od18, .func (PySem.W.fnOf "is_fraction" "is_fraction" (defArgs s_is_fraction) (defBody s_is_fraction) (defScope s_is_fraction) .none kV18 dc18 pm18 an18 cd18 ct18), sl18⟩)
    (c18 : PySem.W.codeIn K cd18 "is_fraction" = true) (k18 : PySem.W.keepIn K (.ref f18) = true)
    (a19 : PySem.W.nsIn K mainGlobals "is_share" = some (some (.ref f19)))
    (l19 : K.lookup f19 = some ⟨oc19, od19, .func (PySem.W.fnOf "is_share" "is_share" (defArgs s_is_share) (defBody s_is_share) (defScope s_is_share) .none kV19 dc19 pm19 an19 cd19 ct19), sl19⟩)
    (c19 : PySem.W.codeIn K cd19 "is_share" = true) (k19 : PySem.W.keepIn K (.ref f19) = true)
    (a20 : PySem.W.nsIn K mainGlobals "is_within" = some (some (.ref f20)))
    (l20 : K.lookup f20 = some ⟨oc20, od20, .func (PySem.W.fnOf "is_within" "is_within" (defArgs s_is_within) (defBody s_is_within) (defScope s_is_within) .none kV20 dc20 pm20 an20 cd20 ct20), sl20⟩)
    (c20 : PySem.W.codeIn K cd20 "is_within" = true) (k20 : PySem.W.keepIn K (.ref f20) = true)
    (a21 : PySem.W.nsIn K mainGlobals "is_way_of" = some (some (.ref f21)))
    (l21 : K.lookup f21 = some ⟨oc21, od21, .func (PySem.W.fnOf "is_way_of" "is_way_of" (defArgs s_is_way_of) (defBody s_is_way_of) (defScope s_is_way_of) .none kV21 dc21 pm21 an21 cd21 ct21), sl21⟩)
    (c21 : PySem.W.codeIn K cd21 "is_way_of" = true) (k21 : PySem.W.keepIn K (.ref f21) = true)
    (a22 : PySem.W.nsIn K mainGlobals "fraction" = some (some (.ref f22)))
    (l22 : K.lookup f22 = some ⟨oc22, od22, .func (PySem.W.fnOf "fraction" "fraction" (defArgs s_fraction) (defBody s_fraction) (defScope s_fraction) .none kV22 dc22 pm22 an22 cd22 ct22), sl22⟩)
    (c22 : PySem.W.codeIn K cd22 "fraction" = true) (k22 : PySem.W.keepIn K (.ref f22) = true)
    (a23 : PySem.W.nsIn K mainGlobals "plus" = some (some (.ref f23)))
    (l23 : K.lookup f23 = some ⟨oc23, od23, .func (PySem.W.fnOf "plus" "plus" (defArgs s_plus) (defBody s_plus) (defScope s_plus) .none kV23 dc23 pm23 an23 cd23 ct23), sl23⟩)
    (c23 : PySem.W.codeIn K cd23 "plus" = true) (k23 : PySem.W.keepIn K (.ref f23) = true)
    (a24 : PySem.W.nsIn K mainGlobals "sum_of" = some (some (.ref f24)))
    (l24 : K.lookup f24 = some ⟨oc24, od24, .func (PySem.W.fnOf "sum_of" "sum_of" (defArgs s_sum_of) (defBody s_sum_of) (defScope s_sum_of) .none kV24 dc24 pm24 an24 cd24 ct24), sl24⟩)
    (c24 : PySem.W.codeIn K cd24 "sum_of" = true) (k24 : PySem.W.keepIn K (.ref f24) = true)
    (a25 : PySem.W.nsIn K mainGlobals "is_lottery" = some (some (.ref f25)))
    (l25 : K.lookup f25 = some ⟨oc25, od25, .func (PySem.W.fnOf "is_lottery" "is_lottery" (defArgs s_is_lottery) (defBody s_is_lottery) (defScope s_is_lottery) .none kV25 dc25 pm25 an25 cd25 ct25), sl25⟩)
    (c25 : PySem.W.codeIn K cd25 "is_lottery" = true) (k25 : PySem.W.keepIn K (.ref f25) = true)
    (a26 : PySem.W.nsIn K mainGlobals "check_lottery" = some (some (.ref f26)))
    (l26 : K.lookup f26 = some ⟨oc26, od26, .func (PySem.W.fnOf "check_lottery" "check_lottery" (defArgs s_check_lottery) (defBody s_check_lottery) (defScope s_check_lottery) .none kV26 dc26 pm26 an26 cd26 ct26), sl26⟩)
    (c26 : PySem.W.codeIn K cd26 "check_lottery" = true) (k26 : PySem.W.keepIn K (.ref f26) = true)
    (a27 : PySem.W.nsIn K mainGlobals "is_choice_of" = some (some (.ref f27)))
    (l27 : K.lookup f27 = some ⟨oc27, od27, .func (PySem.W.fnOf "is_choice_of" "is_choice_of" (defArgs s_is_choice_of) (defBody s_is_choice_of) (defScope s_is_choice_of) .none kV27 dc27 pm27 an27 cd27 ct27), sl27⟩)
    (c27 : PySem.W.codeIn K cd27 "is_choice_of" = true) (k27 : PySem.W.keepIn K (.ref f27) = true)
    (a28 : PySem.W.nsIn K mainGlobals "is_choice" = some (some (.ref f28)))
    (l28 : K.lookup f28 = some ⟨oc28, od28, .func (PySem.W.fnOf "is_choice" "is_choice" (defArgs s_is_choice) (defBody s_is_choice) (defScope s_is_choice) .none kV28 dc28 pm28 an28 cd28 ct28), sl28⟩)
    (c28 : PySem.W.codeIn K cd28 "is_choice" = true) (k28 : PySem.W.keepIn K (.ref f28) = true)
    (a29 : PySem.W.nsIn K mainGlobals "check_choice" = some (some (.ref f29)))
    (l29 : K.lookup f29 = some ⟨oc29, od29, .func (PySem.W.fnOf "check_choice" "check_choice" (defArgs s_check_choice) (defBody s_check_choice) (defScope s_check_choice) .none kV29 dc29 pm29 an29 cd29 ct29), sl29⟩)
    (c29 : PySem.W.codeIn K cd29 "check_choice" = true) (k29 : PySem.W.keepIn K (.ref f29) = true)
    (a30 : PySem.W.nsIn K mainGlobals "check_room" = some (some (.ref f30)))
    (l30 : K.lookup f30 = some ⟨oc30, od30, .func (PySem.W.fnOf "check_room" "check_room" (defArgs s_check_room) (defBody s_check_room) (defScope s_check_room) .none kV30 dc30 pm30 an30 cd30 ct30), sl30⟩)
    (c30 : PySem.W.codeIn K cd30 "check_room" = true) (k30 : PySem.W.keepIn K (.ref f30) = true)
    (a31 : PySem.W.nsIn K mainGlobals "times" = some (some (.ref f31)))
    (l31 : K.lookup f31 = some ⟨oc31, od31, .func (PySem.W.fnOf "times" "times" (defArgs s_times) (defBody s_times) (defScope s_times) .none kV31 dc31 pm31 an31 cd31 ct31), sl31⟩)
    (c31 : PySem.W.codeIn K cd31 "times" = true) (k31 : PySem.W.keepIn K (.ref f31) = true)
    (a32 : PySem.W.nsIn K mainGlobals "first_ways_chance" = some (some (.ref f32)))
    (l32 : K.lookup f32 = some ⟨oc32, od32, .func (PySem.W.fnOf "first_ways_chance" "first_ways_chance" (defArgs s_first_ways_chance) (defBody s_first_ways_chance) (defScope s_first_ways_chance) .none kV32 dc32 pm32 an32 cd32 ct32), sl32⟩)
    (c32 : PySem.W.codeIn K cd32 "first_ways_chance" = true) (k32 : PySem.W.keepIn K (.ref f32) = true)
    (a33 : PySem.W.nsIn K mainGlobals "check_steps" = some (some (.ref f33)))
    (l33 : K.lookup f33 = some ⟨oc33, od33, .func (PySem.W.fnOf "check_steps" "check_steps" (defArgs s_check_steps) (defBody s_check_steps) (defScope s_check_steps) .none kV33 dc33 pm33 an33 cd33 ct33), sl33⟩)
    (c33 : PySem.W.codeIn K cd33 "check_steps" = true) (k33 : PySem.W.keepIn K (.ref f33) = true)
    (a34 : PySem.W.nsIn K mainGlobals "steps_from" = some (some (.ref f34)))
    (l34 : K.lookup f34 = some ⟨oc34, od34, .func (PySem.W.fnOf "steps_from" "steps_from" (defArgs s_steps_from) (defBody s_steps_from) (defScope s_steps_from) .none kV34 dc34 pm34 an34 cd34 ct34), sl34⟩)
    (c34 : PySem.W.codeIn K cd34 "steps_from" = true) (k34 : PySem.W.keepIn K (.ref f34) = true)
    (a35 : PySem.W.nsIn K mainGlobals "next_spread" = some (some (.ref f35)))
    (l35 : K.lookup f35 = some ⟨oc35, od35, .func (PySem.W.fnOf "next_spread" "next_spread" (defArgs s_next_spread) (defBody s_next_spread) (defScope s_next_spread) .none kV35 dc35 pm35 an35 cd35 ct35), sl35⟩)
    (c35 : PySem.W.codeIn K cd35 "next_spread" = true) (k35 : PySem.W.keepIn K (.ref f35) = true)
    (a36 : PySem.W.nsIn K mainGlobals "spreads" = some (some (.ref f36)))
    (l36 : K.lookup f36 = some ⟨oc36, od36, .func (PySem.W.fnOf "spreads" "spreads" (defArgs s_spreads) (defBody s_spreads) (defScope s_spreads) .none kV36 dc36 pm36 an36 cd36 ct36), sl36⟩)
    (c36 : PySem.W.codeIn K cd36 "spreads" = true) (k36 : PySem.W.keepIn K (.ref f36) = true)
    (a37 : PySem.W.nsIn K mainGlobals "steps_at" = some (some (.ref f37)))
    (l37 : K.lookup f37 = some ⟨oc37, od37, .func (PySem.W.fnOf "steps_at" "steps_at" (defArgs s_steps_at) (defBody s_steps_at) (defScope s_steps_at) .none kV37 dc37 pm37 an37 cd37 ct37), sl37⟩)
    (c37 : PySem.W.codeIn K cd37 "steps_at" = true) (k37 : PySem.W.keepIn K (.ref f37) = true)
    (a38 : PySem.W.nsIn K mainGlobals "amount_at" = some (some (.ref f38)))
    (l38 : K.lookup f38 = some ⟨oc38, od38, .func (PySem.W.fnOf "amount_at" "amount_at" (defArgs s_amount_at) (defBody s_amount_at) (defScope s_amount_at) .none kV38 dc38 pm38 an38 cd38 ct38), sl38⟩)
    (c38 : PySem.W.codeIn K cd38 "amount_at" = true) (k38 : PySem.W.keepIn K (.ref f38) = true)
    (a39 : PySem.W.nsIn K mainGlobals "check_goals" = some (some (.ref f39)))
    (l39 : K.lookup f39 = some ⟨oc39, od39, .func (PySem.W.fnOf "check_goals" "check_goals" (defArgs s_check_goals) (defBody s_check_goals) (defScope s_check_goals) .none kV39 dc39 pm39 an39 cd39 ct39), sl39⟩)
    (c39 : PySem.W.codeIn K cd39 "check_goals" = true) (k39 : PySem.W.keepIn K (.ref f39) = true)
    (a40 : PySem.W.nsIn K mainGlobals "chances_by" = some (some (.ref f40)))
    (l40 : K.lookup f40 = some ⟨oc40, od40, .func (PySem.W.fnOf "chances_by" "chances_by" (defArgs s_chances_by) (defBody s_chances_by) (defScope s_chances_by) .none kV40 dc40 pm40 an40 cd40 ct40), sl40⟩)
    (c40 : PySem.W.codeIn K cd40 "chances_by" = true) (k40 : PySem.W.keepIn K (.ref f40) = true)
    (a41 : PySem.W.nsIn K mainGlobals "_law_error" = some (some (.ref f41)))
    (l41 : K.lookup f41 = some ⟨oc41, od41, .func (PySem.W.fnOf "_law_error" "_law_error" (defArgs s_law_error) (defBody s_law_error) (defScope s_law_error) .none kV41 dc41 pm41 an41 cd41 ct41), sl41⟩)
    (c41 : PySem.W.codeIn K cd41 "_law_error" = true) (k41 : PySem.W.keepIn K (.ref f41) = true)
    (a42 : PySem.W.nsIn K mainGlobals "_law_steps" = some (some (.ref f42)))
    (l42 : K.lookup f42 = some ⟨oc42, od42, .func (PySem.W.fnOf "_law_steps" "_law_steps" (defArgs s_law_steps) (defBody s_law_steps) (defScope s_law_steps) .none kV42 dc42 pm42 an42 cd42 ct42), sl42⟩)
    (c42 : PySem.W.codeIn K cd42 "_law_steps" = true) (k42 : PySem.W.keepIn K (.ref f42) = true)
    (a43 : PySem.W.nsIn K mainGlobals "_law_is_plan" = some (some (.ref f43)))
    (l43 : K.lookup f43 = some ⟨oc43, od43, .func (PySem.W.fnOf "_law_is_plan" "_law_is_plan" (defArgs s_law_is_plan) (defBody s_law_is_plan) (defScope s_law_is_plan) .none kV43 dc43 pm43 an43 cd43 ct43), sl43⟩)
    (c43 : PySem.W.codeIn K cd43 "_law_is_plan" = true) (k43 : PySem.W.keepIn K (.ref f43) = true)
    (a44 : PySem.W.nsIn K mainGlobals "_law_first" = some (some (.ref f44)))
    (l44 : K.lookup f44 = some ⟨oc44, od44, .func (PySem.W.fnOf "_law_first" "_law_first" (defArgs s_law_first) (defBody s_law_first) (defScope s_law_first) .none kV44 dc44 pm44 an44 cd44 ct44), sl44⟩)
    (c44 : PySem.W.codeIn K cd44 "_law_first" = true) (k44 : PySem.W.keepIn K (.ref f44) = true)
    (a45 : PySem.W.nsIn K mainGlobals "law" = some (some (.ref f45)))
    (l45 : K.lookup f45 = some ⟨oc45, od45, .func (PySem.W.fnOf "law" "law" (defArgs s_law) (defBody s_law) (defScope s_law) .none kV45 dc45 pm45 an45 cd45 ct45), sl45⟩)
    (c45 : PySem.W.codeIn K cd45 "law" = true) (k45 : PySem.W.keepIn K (.ref f45) = true)
    (aC0 : PySem.W.nsIn K mainGlobals "BadProgram" = some (some (.ref C0))) (q0 : PySem.W.excIn K C0 [.type "ValueError", .type "Exception", .type "BaseException", .type "object"] "ValueError.__new__" = true) (kC0 : PySem.W.keepIn K (.ref C0) = true) (sC0 : PySem.W.subIn K (.ref C0) (.type "BaseException") = some true) (tC0 : PySem.W.typeIn K (.ref C0) = some (.type "type")) (iC0 : PySem.W.isClsIn K C0 = true)
    (aC1 : PySem.W.nsIn K mainGlobals "BadArgument" = some (some (.ref C1))) (q1 : PySem.W.excIn K C1 [.type "ValueError", .type "Exception", .type "BaseException", .type "object"] "ValueError.__new__" = true) (kC1 : PySem.W.keepIn K (.ref C1) = true) (sC1 : PySem.W.subIn K (.ref C1) (.type "BaseException") = some true) (tC1 : PySem.W.typeIn K (.ref C1) = some (.type "type")) (iC1 : PySem.W.isClsIn K C1 = true)
    (u0_0 : PySem.W.subIn K (.ref C0) (.ref C0) = some true)
    (u0_1 : PySem.W.subIn K (.ref C0) (.ref C1) = some false)
    (u1_0 : PySem.W.subIn K (.ref C1) (.ref C0) = some false)
    (u1_1 : PySem.W.subIn K (.ref C1) (.ref C1) = some true)
    (z_abs : PySem.W.nsIn K mainGlobals "abs" = some none)
    (z_bool : PySem.W.nsIn K mainGlobals "bool" = some none)
    (z_int : PySem.W.nsIn K mainGlobals "int" = some none)
    (z_isinstance : PySem.W.nsIn K mainGlobals "isinstance" = some none)
    (z_len : PySem.W.nsIn K mainGlobals "len" = some none)
    (z_list : PySem.W.nsIn K mainGlobals "list" = some none)
    (z_range : PySem.W.nsIn K mainGlobals "range" = some none)
    (z_str : PySem.W.nsIn K mainGlobals "str" = some none)
    (z_sum : PySem.W.nsIn K mainGlobals "sum" = some none)
    (z_tuple : PySem.W.nsIn K mainGlobals "tuple" = some none)
    (v_MOST_AMOUNT : PySem.W.nsIn K mainGlobals "MOST_AMOUNT" = some (some (.int 8 t_MOST_AMOUNT)))
    (v_MOST_PLACES : PySem.W.nsIn K mainGlobals "MOST_PLACES" = some (some (.int 60 t_MOST_PLACES)))
    (v_MOST_ROOMS : PySem.W.nsIn K mainGlobals "MOST_ROOMS" = some (some (.int 8 t_MOST_ROOMS)))
    (v_MOST_SHARE : PySem.W.nsIn K mainGlobals "MOST_SHARE" = some (some (.int 20 t_MOST_SHARE)))
    (v_MOST_STEPS : PySem.W.nsIn K mainGlobals "MOST_STEPS" = some (some (.int 40 t_MOST_STEPS)))
    (v_MOST_WAYS : PySem.W.nsIn K mainGlobals "MOST_WAYS" = some (some (.int 24 t_MOST_WAYS))) :
    ∃ fd : FuncData, (∀ (s : Shared) (v : Value), BindsTo s fd ⟨[v], []⟩ [("script", v)]) ∧ ∀ base : Heap, K.In base → base.Ns mainGlobals mg → FnOk l.prog w K mg base (L2.CX l.prog w) 41 fa fd ["script"] (spLaw K) := by
  have e := hfa.symm.trans (PySem.W.mg_of X G a45)
  cases e
  have F0 := fun_mk (st := s_law_mixed) l0 c0 k0
  have D0 : Df K mg "_law_mixed" s_law_mixed ["number", "k"] := ⟨_, _, F0, PySem.W.mg_of X G a0, F0.binds (ps := ["number", "k"]) fun _ _ _ _ _ _ us hl => match us, hl with | [_, _], _ => rfl⟩
  have F1 := fun_mk (st := s_law_draw) l1 c1 k1
  have D1 : Df K mg "_law_draw" s_law_draw ["draws"] := ⟨_, _, F1, PySem.W.mg_of X G a1, F1.binds (ps := ["draws"]) fun _ _ _ _ _ _ us hl => match us, hl with | [_], _ => rfl⟩
  have F2 := fun_mk (st := s_law_spoilt) l2 c2 k2
  have D2 : Df K mg "_law_spoilt" s_law_spoilt ["draws", "lottery"] := ⟨_, _, F2, PySem.W.mg_of X G a2, F2.binds (ps := ["draws", "lottery"]) fun _ _ _ _ _ _ us hl => match us, hl with | [_, _], _ => rfl⟩
  have F3 := fun_mk (st := s_law_numbers) l3 c3 k3
  have D3 : Df K mg "_law_numbers" s_law_numbers ["script"] := ⟨_, _, F3, PySem.W.mg_of X G a3, F3.binds (ps := ["script"]) fun _ _ _ _ _ _ us hl => match us, hl with | [_], _ => rfl⟩
  have F4 := fun_mk (st := s_law_divisor) l4 c4 k4
  have D4 : Df K mg "_law_divisor" s_law_divisor ["a", "b"] := ⟨_, _, F4, PySem.W.mg_of X G a4, F4.binds (ps := ["a", "b"]) fun _ _ _ _ _ _ us hl => match us, hl with | [_, _], _ => rfl⟩
  have F5 := fun_mk (st := s_law_part) l5 c5 k5
  have D5 : Df K mg "_law_part" s_law_part ["p", "q"] := ⟨_, _, F5, PySem.W.mg_of X G a5, F5.binds (ps := ["p", "q"]) fun _ _ _ _ _ _ us hl => match us, hl with | [_, _], _ => rfl⟩
  have F6 := fun_mk (st := s_law_lottery) l6 c6 k6
  have D6 : Df K mg "_law_lottery" s_law_lottery ["draws", "most"] := ⟨_, _, F6, PySem.W.mg_of X G a6, F6.binds (ps := ["draws", "most"]) fun _ _ _ _ _ _ us hl => match us, hl with | [_, _], _ => rfl⟩
  have F7 := fun_mk (st := s_law_places) l7 c7 k7
  have D7 : Df K mg "_law_places" s_law_places ["lottery", "room"] := ⟨_, _, F7, PySem.W.mg_of X G a7, F7.binds (ps := ["lottery", "room"]) fun _ _ _ _ _ _ us hl => match us, hl with | [_, _], _ => rfl⟩
  have F8 := fun_mk (st := s_law_plan) l8 c8 k8
  have D8 : Df K mg "_law_plan" s_law_plan ["draws", "lottery"] := ⟨_, _, F8, PySem.W.mg_of X G a8, F8.binds (ps := ["draws", "lottery"]) fun _ _ _ _ _ _ us hl => match us, hl with | [_, _], _ => rfl⟩
  have F9 := fun_mk (st := s_law_walk) l9 c9 k9
  have D9 : Df K mg "_law_walk" s_law_walk ["draws", "lottery", "plan", "room"] := ⟨_, _, F9, PySem.W.mg_of X G a9, F9.binds (ps := ["draws", "lottery", "plan", "room"]) fun _ _ _ _ _ _ us hl => match us, hl with | [_, _, _, _], _ => rfl⟩
  have F10 := fun_mk (st := s_law_times) l10 c10 k10
  have D10 : Df K mg "_law_times" s_law_times ["one", "other"] := ⟨_, _, F10, PySem.W.mg_of X G a10, F10.binds (ps := ["one", "other"]) fun _ _ _ _ _ _ us hl => match us, hl with | [_, _], _ => rfl⟩
  have F11 := fun_mk (st := s_law_plus) l11 c11 k11
  have D11 : Df K mg "_law_plus" s_law_plus ["one", "other"] := ⟨_, _, F11, PySem.W.mg_of X G a11, F11.binds (ps := ["one", "other"]) fun _ _ _ _ _ _ us hl => match us, hl with | [_, _], _ => rfl⟩
  have F12 := fun_mk (st := s_law_spread) l12 c12 k12
  have D12 : Df K mg "_law_spread" s_law_spread ["steps", "room", "k"] := ⟨_, _, F12, PySem.W.mg_of X G a12, F12.binds (ps := ["steps", "room", "k"]) fun _ _ _ _ _ _ us hl => match us, hl with | [_, _, _], _ => rfl⟩
  have F13 := fun_mk (st := s_law_all_equal) l13 c13 k13
  have D13 : Df K mg "_law_all_equal" s_law_all_equal ["actual", "due"] := ⟨_, _, F13, PySem.W.mg_of X G a13, F13.binds (ps := ["actual", "due"]) fun _ _ _ _ _ _ us hl => match us, hl with | [_, _], _ => rfl⟩
  have F14 := fun_mk (st := s_law_equal) l14 c14 k14
  have D14 : Df K mg "_law_equal" s_law_equal ["actual", "due"] := ⟨_, _, F14, PySem.W.mg_of X G a14, F14.binds (ps := ["actual", "due"]) fun _ _ _ _ _ _ us hl => match us, hl with | [_, _], _ => rfl⟩
  have F15 := fun_mk (st := s_places_from) l15 c15 k15
  have D15 : Df K mg "places_from" s_places_from ["lottery", "room"] := ⟨_, _, F15, PySem.W.mg_of X G a15, F15.binds (ps := ["lottery", "room"]) fun _ _ _ _ _ _ us hl => match us, hl with | [_, _], _ => rfl⟩
  have F16 := fun_mk (st := s_is_tuple) l16 c16 k16
  have D16 : Df K mg "is_tuple" s_is_tuple ["value", "size"] := ⟨_, _, F16, PySem.W.mg_of X G a16, F16.binds (ps := ["value", "size"]) fun _ _ _ _ _ _ us hl => match us, hl with | [_, _], _ => rfl⟩
  have F17 := fun_mk (st := s_divisor) l17 c17 k17
  have D17 : Df K mg "divisor" s_divisor ["one", "other"] := ⟨_, _, F17, PySem.W.mg_of X G a17, F17.binds (ps := ["one", "other"]) fun _ _ _ _ _ _ us hl => match us, hl with | [_, _], _ => rfl⟩
  have F18 := fun_mk (st := s_is_fraction) l18 c18 k18
  have D18 : Df K mg "is_fraction" s_is_fraction ["value"] := ⟨_, _, F18, PySem.W.mg_of X G a18, F18.binds (ps := ["value"]) fun _ _ _ _ _ _ us hl => match us, hl with | [_], _ => rfl⟩
  have F19 := fun_mk (st := s_is_share) l19 c19 k19
  have D19 : Df K mg "is_share" s_is_share ["value"] := ⟨_, _, F19, PySem.W.mg_of X G a19, F19.binds (ps := ["value"]) fun _ _ _ _ _ _ us hl => match us, hl with | [_], _ => rfl⟩
  have F20 := fun_mk (st := s_is_within) l20 c20 k20
  have D20 : Df K mg "is_within" s_is_within ["value", "least", "most"] := ⟨_, _, F20, PySem.W.mg_of X G a20, F20.binds (ps := ["value", "least", "most"]) fun _ _ _ _ _ _ us hl => match us, hl with | [_, _, _], _ => rfl⟩
  have F21 := fun_mk (st := s_is_way_of) l21 c21 k21
  have D21 : Df K mg "is_way_of" s_is_way_of ["value", "owners"] := ⟨_, _, F21, PySem.W.mg_of X G a21, F21.binds (ps := ["value", "owners"]) fun _ _ _ _ _ _ us hl => match us, hl with | [_, _], _ => rfl⟩
  have F22 := fun_mk (st := s_fraction) l22 c22 k22
  have D22 : Df K mg "fraction" s_fraction ["p", "q"] := ⟨_, _, F22, PySem.W.mg_of X G a22, F22.binds (ps := ["p", "q"]) fun _ _ _ _ _ _ us hl => match us, hl with | [_, _], _ => rfl⟩
  have F23 := fun_mk (st := s_plus) l23 c23 k23
  have D23 : Df K mg "plus" s_plus ["one", "other"] := ⟨_, _, F23, PySem.W.mg_of X G a23, F23.binds (ps := ["one", "other"]) fun _ _ _ _ _ _ us hl => match us, hl with | [_, _], _ => rfl⟩
  have F24 := fun_mk (st := s_sum_of) l24 c24 k24
  have D24 : Df K mg "sum_of" s_sum_of ["shares"] := ⟨_, _, F24, PySem.W.mg_of X G a24, F24.binds (ps := ["shares"]) fun _ _ _ _ _ _ us hl => match us, hl with | [_], _ => rfl⟩
  have F25 := fun_mk (st := s_is_lottery) l25 c25 k25
  have D25 : Df K mg "is_lottery" s_is_lottery ["value"] := ⟨_, _, F25, PySem.W.mg_of X G a25, F25.binds (ps := ["value"]) fun _ _ _ _ _ _ us hl => match us, hl with | [_], _ => rfl⟩
  have F26 := fun_mk (st := s_check_lottery) l26 c26 k26
  have D26 : Df K mg "check_lottery" s_check_lottery ["lottery"] := ⟨_, _, F26, PySem.W.mg_of X G a26, F26.binds (ps := ["lottery"]) fun _ _ _ _ _ _ us hl => match us, hl with | [_], _ => rfl⟩
  have F27 := fun_mk (st := s_is_choice_of) l27 c27 k27
  have D27 : Df K mg "is_choice_of" s_is_choice_of ["lottery", "plan"] := ⟨_, _, F27, PySem.W.mg_of X G a27, F27.binds (ps := ["lottery", "plan"]) fun _ _ _ _ _ _ us hl => match us, hl with | [_, _], _ => rfl⟩
  have F28 := fun_mk (st := s_is_choice) l28 c28 k28
  have D28 : Df K mg "is_choice" s_is_choice ["lottery", "plan"] := ⟨_, _, F28, PySem.W.mg_of X G a28, F28.binds (ps := ["lottery", "plan"]) fun _ _ _ _ _ _ us hl => match us, hl with | [_, _], _ => rfl⟩
  have F29 := fun_mk (st := s_check_choice) l29 c29 k29
  have D29 : Df K mg "check_choice" s_check_choice ["lottery", "plan"] := ⟨_, _, F29, PySem.W.mg_of X G a29, F29.binds (ps := ["lottery", "plan"]) fun _ _ _ _ _ _ us hl => match us, hl with | [_, _], _ => rfl⟩
  have F30 := fun_mk (st := s_check_room) l30 c30 k30
  have D30 : Df K mg "check_room" s_check_room ["lottery", "room"] := ⟨_, _, F30, PySem.W.mg_of X G a30, F30.binds (ps := ["lottery", "room"]) fun _ _ _ _ _ _ us hl => match us, hl with | [_, _], _ => rfl⟩
  have F31 := fun_mk (st := s_times) l31 c31 k31
  have D31 : Df K mg "times" s_times ["one", "other"] := ⟨_, _, F31, PySem.W.mg_of X G a31, F31.binds (ps := ["one", "other"]) fun _ _ _ _ _ _ us hl => match us, hl with | [_, _], _ => rfl⟩
  have F32 := fun_mk (st := s_first_ways_chance) l32 c32 k32
  have D32 : Df K mg "first_ways_chance" s_first_ways_chance ["lottery", "plan", "room", "places"] := ⟨_, _, F32, PySem.W.mg_of X G a32, F32.binds (ps := ["lottery", "plan", "room", "places"]) fun _ _ _ _ _ _ us hl => match us, hl with | [_, _, _, _], _ => rfl⟩
  have F33 := fun_mk (st := s_check_steps) l33 c33 k33
  have D33 : Df K mg "check_steps" s_check_steps ["k"] := ⟨_, _, F33, PySem.W.mg_of X G a33, F33.binds (ps := ["k"]) fun _ _ _ _ _ _ us hl => match us, hl with | [_], _ => rfl⟩
  have F34 := fun_mk (st := s_steps_from) l34 c34 k34
  have D34 : Df K mg "steps_from" s_steps_from ["lottery", "plan"] := ⟨_, _, F34, PySem.W.mg_of X G a34, F34.binds (ps := ["lottery", "plan"]) fun _ _ _ _ _ _ us hl => match us, hl with | [_, _], _ => rfl⟩
  have F35 := fun_mk (st := s_next_spread) l35 c35 k35
  have D35 : Df K mg "next_spread" s_next_spread ["steps", "spread"] := ⟨_, _, F35, PySem.W.mg_of X G a35, F35.binds (ps := ["steps", "spread"]) fun _ _ _ _ _ _ us hl => match us, hl with | [_, _], _ => rfl⟩
  have F36 := fun_mk (st := s_spreads) l36 c36 k36
  have D36 : Df K mg "spreads" s_spreads ["lottery", "plan", "room", "k"] := ⟨_, _, F36, PySem.W.mg_of X G a36, F36.binds (ps := ["lottery", "plan", "room", "k"]) fun _ _ _ _ _ _ us hl => match us, hl with | [_, _, _, _], _ => rfl⟩
  have F37 := fun_mk (st := s_steps_at) l37 c37 k37
  have D37 : Df K mg "steps_at" s_steps_at ["lottery", "plan", "room", "k"] := ⟨_, _, F37, PySem.W.mg_of X G a37, F37.binds (ps := ["lottery", "plan", "room", "k"]) fun _ _ _ _ _ _ us hl => match us, hl with | [_, _, _, _], _ => rfl⟩
  have F38 := fun_mk (st := s_amount_at) l38 c38 k38
  have D38 : Df K mg "amount_at" s_amount_at ["lottery", "plan", "room", "k"] := ⟨_, _, F38, PySem.W.mg_of X G a38, F38.binds (ps := ["lottery", "plan", "room", "k"]) fun _ _ _ _ _ _ us hl => match us, hl with | [_, _, _, _], _ => rfl⟩
  have F39 := fun_mk (st := s_check_goals) l39 c39 k39
  have D39 : Df K mg "check_goals" s_check_goals ["lottery", "goals"] := ⟨_, _, F39, PySem.W.mg_of X G a39, F39.binds (ps := ["lottery", "goals"]) fun _ _ _ _ _ _ us hl => match us, hl with | [_, _], _ => rfl⟩
  have F40 := fun_mk (st := s_chances_by) l40 c40 k40
  have D40 : Df K mg "chances_by" s_chances_by ["lottery", "plan", "goals"] := ⟨_, _, F40, PySem.W.mg_of X G a40, F40.binds (ps := ["lottery", "plan", "goals"]) fun _ _ _ _ _ _ us hl => match us, hl with | [_, _, _], _ => rfl⟩
  have F41 := fun_mk (st := s_law_error) l41 c41 k41
  have D41 : Df K mg "_law_error" s_law_error ["name", "lottery", "plan", "one", "two"] := ⟨_, _, F41, PySem.W.mg_of X G a41, F41.binds (ps := ["name", "lottery", "plan", "one", "two"]) fun _ _ _ _ _ _ us hl => match us, hl with | [_, _, _, _, _], _ => rfl⟩
  have F42 := fun_mk (st := s_law_steps) l42 c42 k42
  have D42 : Df K mg "_law_steps" s_law_steps ["lottery", "plan"] := ⟨_, _, F42, PySem.W.mg_of X G a42, F42.binds (ps := ["lottery", "plan"]) fun _ _ _ _ _ _ us hl => match us, hl with | [_, _], _ => rfl⟩
  have F43 := fun_mk (st := s_law_is_plan) l43 c43 k43
  have D43 : Df K mg "_law_is_plan" s_law_is_plan ["lottery", "plan"] := ⟨_, _, F43, PySem.W.mg_of X G a43, F43.binds (ps := ["lottery", "plan"]) fun _ _ _ _ _ _ us hl => match us, hl with | [_, _], _ => rfl⟩
  have F44 := fun_mk (st := s_law_first) l44 c44 k44
  have D44 : Df K mg "_law_first" s_law_first ["lottery", "plan", "room", "places"] := ⟨_, _, F44, PySem.W.mg_of X G a44, F44.binds (ps := ["lottery", "plan", "room", "places"]) fun _ _ _ _ _ _ us hl => match us, hl with | [_, _, _, _], _ => rfl⟩
  have F45 := fun_mk (st := s_law) l45 c45 k45
  have T : Tx K mg (fun n => match n with | 0 => .ref C0 | _ => .ref C1) := {
    n_abs := PySem.W.mg_none_of X G z_abs
    n_bool := PySem.W.mg_none_of X G z_bool
    n_int := PySem.W.mg_none_of X G z_int
    n_isinstance := PySem.W.mg_none_of X G z_isinstance
    n_len := PySem.W.mg_none_of X G z_len
    n_list := PySem.W.mg_none_of X G z_list
    n_range := PySem.W.mg_none_of X G z_range
    n_str := PySem.W.mg_none_of X G z_str
    n_sum := PySem.W.mg_none_of X G z_sum
    n_tuple := PySem.W.mg_none_of X G z_tuple
    c_MOST_AMOUNT := ⟨_, PySem.W.mg_of X G v_MOST_AMOUNT⟩
    c_MOST_PLACES := ⟨_, PySem.W.mg_of X G v_MOST_PLACES⟩
    c_MOST_ROOMS := ⟨_, PySem.W.mg_of X G v_MOST_ROOMS⟩
    c_MOST_SHARE := ⟨_, PySem.W.mg_of X G v_MOST_SHARE⟩
    c_MOST_STEPS := ⟨_, PySem.W.mg_of X G v_MOST_STEPS⟩
    c_MOST_WAYS := ⟨_, PySem.W.mg_of X G v_MOST_WAYS⟩
    e_0 := ⟨C0, rfl, PySem.W.mg_of X G aC0, q0, kC0, sC0, tC0⟩
    x_0 := fun m hm => match m, hm with | 0, _ => exm_of sC0 iC0 tC0 u0_0 | 1, _ => exm_of sC0 iC0 tC0 u1_0
    g_0 := PySem.W.mg_of X G aC0
    e_1 := ⟨C1, rfl, PySem.W.mg_of X G aC1, q1, kC1, sC1, tC1⟩
    x_1 := fun m hm => match m, hm with | 0, _ => exm_of sC1 iC1 tC1 u0_1 | 1, _ => exm_of sC1 iC1 tC1 u1_1
    g_1 := PySem.W.mg_of X G aC1
  }
  refine ⟨PySem.W.fnOf "law" "law" (defArgs s_law) (defBody s_law) (defScope s_law) .none kV45 dc45 pm45 an45 cd45 ct45, fun s v => .of_eq rfl, fun base _ _ => ?_⟩
  have K_law_mixed := ok_law_mixed (P := l.prog) (w := w) (base := base) T D0 
  have K_law_draw := ok_law_draw (P := l.prog) (w := w) (base := base) T D1 (k_law_mixed := K_law_mixed)
  have K_law_spoilt := ok_law_spoilt (P := l.prog) (w := w) (base := base) T D2 (k_law_draw := K_law_draw)
  have K_law_numbers := ok_law_numbers (P := l.prog) (w := w) (base := base) T D3 (k_law_mixed := K_law_mixed) numbers_ok
  have K_law_divisor := ok_law_divisor (P := l.prog) (w := w) (base := base) T D4 
  have K_law_part := ok_law_part (P := l.prog) (w := w) (base := base) T D5 (k_law_divisor := K_law_divisor)
  have K_law_lottery := ok_law_lottery (P := l.prog) (w := w) (base := base) T D6 (k_law_draw := K_law_draw) (k_law_part := K_law_part)
  have K_law_places := ok_law_places (P := l.prog) (w := w) (base := base) T D7 
  have K_law_plan := ok_law_plan (P := l.prog) (w := w) (base := base) T D8 (k_law_places := K_law_places) (k_law_draw := K_law_draw)
  have K_law_walk := ok_law_walk (P := l.prog) (w := w) (base := base) T D9 (k_law_draw := K_law_draw) (k_law_places := K_law_places)
  have K_law_times := ok_law_times (P := l.prog) (w := w) (base := base) T D10 (k_law_part := K_law_part)
  have K_law_plus := ok_law_plus (P := l.prog) (w := w) (base := base) T D11 (k_law_part := K_law_part)
  have K_law_spread := ok_law_spread (P := l.prog) (w := w) (base := base) T D12 (k_law_times := K_law_times) (k_law_plus := K_law_plus)
  have K_law_equal := ok_law_equal40 (P := l.prog) (w := w) (base := base) T D14 D13
  have K_places_from := ok_places_from (P := l.prog) (w := w) (base := base) T D15 
  have K_is_tuple := ok_is_tuple (P := l.prog) (w := w) (base := base) T D16 
  have K_divisor := ok_divisor (P := l.prog) (w := w) (base := base) T D17 
  have K_is_fraction := ok_is_fraction (P := l.prog) (w := w) (base := base) T D18 (k_is_tuple := K_is_tuple) (k_divisor := K_divisor)
  have K_is_share := ok_is_share (P := l.prog) (w := w) (base := base) T D19 (k_is_fraction := K_is_fraction)
  have K_is_within := ok_is_within (P := l.prog) (w := w) (base := base) T D20 
  have K_is_way_of := ok_is_way_of (P := l.prog) (w := w) (base := base) T D21 (k_is_tuple := K_is_tuple) (k_is_within := K_is_within) (k_is_share := K_is_share)
  have K_fraction := ok_fraction (P := l.prog) (w := w) (base := base) T D22 (k_divisor := K_divisor)
  have K_plus := ok_plus (P := l.prog) (w := w) (base := base) T D23 (k_fraction := K_fraction)
  have K_sum_of := ok_sum_of (P := l.prog) (w := w) (base := base) T D24 (k_plus := K_plus)
  have K_is_lottery := ok_is_lottery (P := l.prog) (w := w) (base := base) T D25 (k_is_tuple := K_is_tuple) (k_is_within := K_is_within) (k_is_way_of := K_is_way_of) (k_places_from := K_places_from) (k_sum_of := K_sum_of)
  have K_check_lottery := ok_check_lottery (P := l.prog) (w := w) (base := base) T D26 (k_is_lottery := K_is_lottery)
  have K_is_choice_of := ok_is_choice_of (P := l.prog) (w := w) (base := base) T D27 (k_is_tuple := K_is_tuple) (k_is_within := K_is_within)
  have K_is_choice := ok_is_choice (P := l.prog) (w := w) (base := base) T D28 (k_check_lottery := K_check_lottery) (k_is_choice_of := K_is_choice_of)
  have K_check_choice := ok_check_choice (P := l.prog) (w := w) (base := base) T D29 (k_check_lottery := K_check_lottery) (k_is_choice_of := K_is_choice_of)
  have K_check_room := ok_check_room (P := l.prog) (w := w) (base := base) T D30 (k_is_within := K_is_within)
  have K_times := ok_times (P := l.prog) (w := w) (base := base) T D31 (k_fraction := K_fraction)
  have K_first_ways_chance := ok_first_ways_chance (P := l.prog) (w := w) (base := base) T D32 (k_check_choice := K_check_choice) (k_check_room := K_check_room) (k_is_within := K_is_within) (k_times := K_times)
  have K_check_steps := ok_check_steps (P := l.prog) (w := w) (base := base) T D33 (k_is_within := K_is_within)
  have K_steps_from := ok_steps_from (P := l.prog) (w := w) (base := base) T D34 (k_places_from := K_places_from)
  have K_next_spread := ok_next_spread (P := l.prog) (w := w) (base := base) T D35 (k_plus := K_plus) (k_times := K_times)
  have K_spreads := ok_spreads (P := l.prog) (w := w) (base := base) T D36 (k_steps_from := K_steps_from) (k_next_spread := K_next_spread)
  have K_steps_at := ok_steps_at (P := l.prog) (w := w) (base := base) T D37 (k_check_choice := K_check_choice) (k_check_room := K_check_room) (k_check_steps := K_check_steps) (k_spreads := K_spreads)
  have K_amount_at := ok_amount_at (P := l.prog) (w := w) (base := base) T D38 (k_check_choice := K_check_choice) (k_check_room := K_check_room) (k_check_steps := K_check_steps) (k_steps_from := K_steps_from) (k_spreads := K_spreads) (k_plus := K_plus) (k_times := K_times)
  have K_check_goals := ok_check_goals (P := l.prog) (w := w) (base := base) T D39 (k_is_within := K_is_within)
  have K_chances_by := ok_chances_by (P := l.prog) (w := w) (base := base) T D40 (k_check_choice := K_check_choice) (k_check_goals := K_check_goals)
  have K_law_error := ok_law_error (P := l.prog) (w := w) (base := base) T D41 (k_is_choice := K_is_choice) (k_first_ways_chance := K_first_ways_chance) (k_steps_at := K_steps_at) (k_amount_at := K_amount_at) (k_chances_by := K_chances_by)
  have K_law_steps := ok_law_steps (P := l.prog) (w := w) (base := base) T D42 (k_law_places := K_law_places)
  have K_law_is_plan := ok_law_is_plan (P := l.prog) (w := w) (base := base) T D43 
  have K_law_first := ok_law_first (P := l.prog) (w := w) (base := base) T D44 (k_law_times := K_law_times)
  exact ok_law T F45 K_law_numbers (k_law_lottery := K_law_lottery) (k_law_plan := K_law_plan) (k_law_equal := K_law_equal) (k_is_lottery := K_is_lottery) (k_is_choice := K_is_choice) (k_law_draw := K_law_draw) (k_law_is_plan := K_law_is_plan) (k_law_walk := K_law_walk) (k_first_ways_chance := K_first_ways_chance) (k_law_first := K_law_first) (k_law_spread := K_law_spread) (k_law_steps := K_law_steps) (k_steps_at := K_steps_at) (k_amount_at := K_amount_at) (k_law_error := K_law_error) (k_law_spoilt := K_law_spoilt) law_runs
end
end K
open PySem PySem.W PyProof.Rows
set_option maxRecDepth 100000 in
set_option maxHeartbeats 0 in
theorem PySem.Challenge.cw_everypurse_k00_lotteries_and_plans_holds : PySem.Challenge.rw_everypurse_k00_lotteries_and_plans.Holds := by
  w_on; o_law; k_head; (case hw => w_witness2)
  k_fill
  refine L2.walk_of (l := PySem.Challenge.rw_everypurse_k00_lotteries_and_plans) (n := 63) (k := 41) (x := "script") (CX := fun w => L2.CX (PySem.Challenge.rw_everypurse_k00_lotteries_and_plans).prog w) (sp := fun w => DL.spLaw _) rfl (by decide) rfl ⟨rfl, by decide, by decide⟩ (fun w h Y => PySem.W.kIn_of Y) ?F (fun w H a ns hl ho hS => ⟨a, ns, rfl, hS, hl, ho, fun _ => rfl⟩) (fun _ _ _ _ _ h => K.cx_no h)
  case F =>
    intro w mg fa h KX G hmg
    refine' K.all_mk KX G hmg ?a0 ?l0 ?c0 ?k0 ?a1 ?l1 ?c1 ?k1 ?a2 ?l2 ?c2 ?k2 ?a3 ?l3 ?c3 ?k3 ?a4 ?l4 ?c4 ?k4 ?a5 ?l5 ?c5 ?k5 ?a6 ?l6 ?c6 ?k6 ?a7 ?l7 ?c7 ?k7 ?a8 ?l8 ?c8 ?k8 ?a9 ?l9 ?c9 ?k9 ?a10 ?l10 ?c10 ?k10 ?a11 ?l11 ?c11 ?k11 ?a12 ?l12 ?c12 ?k12 ?a13 ?l13 ?c13 ?k13 ?a14 ?l14 ?c14 ?k14 ?a15 ?l15 ?c15 ?k15 ?a16 ?l16 ?c16 ?k16 ?a17 ?l17 ?c17 ?k17 ?a18 ?l18 ?c18 ?k18 ?a19 ?l19 ?c19 ?k19 ?a20 ?l20 ?c20 ?k20 ?a21 ?l21 ?c21 ?k21 ?a22 ?l22 ?c22 ?k22 ?a23 ?l23 ?c23 ?k23 ?a24 ?l24 ?c24 ?k24 ?a25 ?l25 ?c25 ?k25 ?a26 ?l26 ?c26 ?k26 ?a27 ?l27 ?c27 ?k27 ?a28 ?l28 ?c28 ?k28 ?a29 ?l29 ?c29 ?k29 ?a30 ?l30 ?c30 ?k30 ?a31 ?l31 ?c31 ?k31 ?a32 ?l32 ?c32 ?k32 ?a33 ?l33 ?c33 ?k33 ?a34 ?l34 ?c34 ?k34 ?a35 ?l35 ?c35 ?k35 ?a36 ?l36 ?c36 ?k36 ?a37 ?l37 ?c37 ?k37 ?a38 ?l38 ?c38 ?k38 ?a39 ?l39 ?c39 ?k39 ?a40 ?l40 ?c40 ?k40 ?a41 ?l41 ?c41 ?k41 ?a42 ?l42 ?c42 ?k42 ?a43 ?l43 ?c43 ?k43 ?a44 ?l44 ?c44 ?k44 ?a45 ?l45 ?c45 ?k45 ?aC0 ?q0 ?kC0 ?sC0 ?tC0 ?iC0 ?aC1 ?q1 ?kC1 ?sC1 ?tC1 ?iC1 ?u0_0 ?u0_1 ?u1_0 ?u1_1 ?z_abs ?z_bool ?z_int ?z_isinstance ?z_len ?z_list ?z_range ?z_str ?z_sum ?z_tuple ?v_MOST_AMOUNT ?v_MOST_PLACES ?v_MOST_ROOMS ?v_MOST_SHARE ?v_MOST_STEPS ?v_MOST_WAYS
    (case a0 => k_is)
    (case l0 => k_is)
    (case c0 => k_is)
    (case k0 => k_is)
    (case a1 => k_is)
    (case l1 => k_is)
    (case c1 => k_is)
    (case k1 => k_is)
    (case a2 => k_is)
    (case l2 => k_is)
    (case c2 => k_is)
    (case k2 => k_is)
    (case a3 => k_is)
    (case l3 => k_is)
    (case c3 => k_is)
    (case k3 => k_is)
    (case a4 => k_is)
    (case l4 => k_is)
    (case c4 => k_is)
    (case k4 => k_is)
    (case a5 => k_is)
    (case l5 => k_is)
    (case c5 => k_is)
    (case k5 => k_is)
    (case a6 => k_is)
    (case l6 => k_is)
    (case c6 => k_is)
    (case k6 => k_is)
    (case a7 => k_is)
    (case l7 => k_is)
    (case c7 => k_is)
    (case k7 => k_is)
    (case a8 => k_is)
    (case l8 => k_is)
    (case c8 => k_is)
    (case k8 => k_is)
    (case a9 => k_is)
    (case l9 => k_is)
    (case c9 => k_is)
    (case k9 => k_is)
    (case a10 => k_is)
    (case l10 => k_is)
    (case c10 => k_is)
    (case k10 => k_is)
    (case a11 => k_is)
    (case l11 => k_is)
    (case c11 => k_is)
    (case k11 => k_is)
    (case a12 => k_is)
    (case l12 => k_is)
    (case c12 => k_is)
    (case k12 => k_is)
    (case a13 => k_is)
    (case l13 => k_is)
    (case c13 => k_is)
    (case k13 => k_is)
    (case a14 => k_is)
    (case l14 => k_is)
    (case c14 => k_is)
    (case k14 => k_is)
    (case a15 => k_is)
    (case l15 => k_is)
    (case c15 => k_is)
    (case k15 => k_is)
    (case a16 => k_is)
    (case l16 => k_is)
    (case c16 => k_is)
    (case k16 => k_is)
    (case a17 => k_is)
    (case l17 => k_is)
    (case c17 => k_is)
    (case k17 => k_is)
    (case a18 => k_is)
    (case l18 => k_is)
    (case c18 => k_is)
    (case k18 => k_is)
    (case a19 => k_is)
    (case l19 => k_is)
    (case c19 => k_is)
    (case k19 => k_is)
    (case a20 => k_is)
    (case l20 => k_is)
    (case c20 => k_is)
    (case k20 => k_is)
    (case a21 => k_is)
    (case l21 => k_is)
    (case c21 => k_is)
    (case k21 => k_is)
    (case a22 => k_is)
    (case l22 => k_is)
    (case c22 => k_is)
    (case k22 => k_is)
    (case a23 => k_is)
    (case l23 => k_is)
    (case c23 => k_is)
    (case k23 => k_is)
    (case a24 => k_is)
    (case l24 => k_is)
    (case c24 => k_is)
    (case k24 => k_is)
    (case a25 => k_is)
    (case l25 => k_is)
    (case c25 => k_is)
    (case k25 => k_is)
    (case a26 => k_is)
    (case l26 => k_is)
    (case c26 => k_is)
    (case k26 => k_is)
    (case a27 => k_is)
    (case l27 => k_is)
    (case c27 => k_is)
    (case k27 => k_is)
    (case a28 => k_is)
    (case l28 => k_is)
    (case c28 => k_is)
    (case k28 => k_is)
    (case a29 => k_is)
    (case l29 => k_is)
    (case c29 => k_is)
    (case k29 => k_is)
    (case a30 => k_is)
    (case l30 => k_is)
    (case c30 => k_is)
    (case k30 => k_is)
    (case a31 => k_is)
    (case l31 => k_is)
    (case c31 => k_is)
    (case k31 => k_is)
    (case a32 => k_is)
    (case l32 => k_is)
    (case c32 => k_is)
    (case k32 => k_is)
    (case a33 => k_is)
    (case l33 => k_is)
    (case c33 => k_is)
    (case k33 => k_is)
    (case a34 => k_is)
    (case l34 => k_is)
    (case c34 => k_is)
    (case k34 => k_is)
    (case a35 => k_is)
    (case l35 => k_is)
    (case c35 => k_is)
    (case k35 => k_is)
    (case a36 => k_is)
    (case l36 => k_is)
    (case c36 => k_is)
    (case k36 => k_is)
    (case a37 => k_is)
    (case l37 => k_is)
    (case c37 => k_is)
    (case k37 => k_is)
    (case a38 => k_is)
    (case l38 => k_is)
    (case c38 => k_is)
    (case k38 => k_is)
    (case a39 => k_is)
    (case l39 => k_is)
    (case c39 => k_is)
    (case k39 => k_is)
    (case a40 => k_is)
    (case l40 => k_is)
    (case c40 => k_is)
    (case k40 => k_is)
    (case a41 => k_is)
    (case l41 => k_is)
    (case c41 => k_is)
    (case k41 => k_is)
    (case a42 => k_is)
    (case l42 => k_is)
    (case c42 => k_is)
    (case k42 => k_is)
    (case a43 => k_is)
    (case l43 => k_is)
    (case c43 => k_is)
    (case k43 => k_is)
    (case a44 => k_is)
    (case l44 => k_is)
    (case c44 => k_is)
    (case k44 => k_is)
    (case a45 => k_is)
    (case l45 => k_is)
    (case c45 => k_is)
    (case k45 => k_is)
    (case aC0 => k_is)
    (case q0 => k_exc)
    (case kC0 => k_is)
    (case sC0 => k_is)
    (case tC0 => k_is)
    (case iC0 => k_is)
    (case aC1 => k_is)
    (case q1 => k_exc)
    (case kC1 => k_is)
    (case sC1 => k_is)
    (case tC1 => k_is)
    (case iC1 => k_is)
    (case u0_0 => k_is)
    (case u0_1 => k_is)
    (case u1_0 => k_is)
    (case u1_1 => k_is)
    (case z_abs => k_is)
    (case z_bool => k_is)
    (case z_int => k_is)
    (case z_isinstance => k_is)
    (case z_len => k_is)
    (case z_list => k_is)
    (case z_range => k_is)
    (case z_str => k_is)
    (case z_sum => k_is)
    (case z_tuple => k_is)
    (case v_MOST_AMOUNT => k_is)
    (case v_MOST_PLACES => k_is)
    (case v_MOST_ROOMS => k_is)
    (case v_MOST_SHARE => k_is)
    (case v_MOST_STEPS => k_is)
    (case v_MOST_WAYS => k_is)


